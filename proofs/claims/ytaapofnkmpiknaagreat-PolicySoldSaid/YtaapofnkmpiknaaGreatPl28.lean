/- Part 28 of the proof: contracts of the functions that the law reaches -/
import Derived.Test.YtaapofnkmpiknaaGreatPl27
set_option maxRecDepth 100000
set_option linter.unusedVariables false
set_option linter.unusedSimpArgs false
namespace Go.Proofs.YtaapofnkmpiknaaGreat
open Go Go.Ab
attribute [local irreducible] upd del
def B3v (p:B1) (us:List B2) (D:List Int) (m i:Nat):Int:=if ((i % m:Nat):Int)≥p.buy then J9 (gU us (gI D i).toNat).net p.rate else 0
def I7 (p:B1) (us:List B2) (D:List Int) (m n:Nat):List Int:=(List.range n).map (B3v p us D m)
theorem B8q {us:List B2} {i:Nat} (h:i<us.length):less1 us i 0=us:=by
 unfold less1
 refine D9a (by simp) fun j h1 h2=>?_
 rw [List.getElem_set]
 split
 ·rename_i e;subst e
  have e:gU us i=us[i]:=by unfold gU;rw [D6D,D6K h];rfl
  rw [e,Int.sub_zero]
 ·rfl
theorem C6o (d:List QE) {k:Nat} (h:k<d.length):gI (d.map (·.2)) k=(at_ d k).2:=D4 (fun e:QE=>e.2) d h
theorem B7b {p:B1} {us:List B2} {d:List QE} {m:Nat} (hP:A0a us (d.map (·.2))) {n:Nat} (hn:n≤d.length) {s:Nat} (hs:s % m=0) (hsm:s+m≤n):∀ k,k≤m →
  A0X p (D0 us (d.map (·.2)) (I7 p us (d.map (·.2)) m n) s) (d.drop s) k=(D0 us (d.map (·.2)) (I7 p us (d.map (·.2)) m n) (s+k),A2 ((I7 p us (d.map (·.2)) m n).take (s+k)) - A2 ((I7 p us (d.map (·.2)) m n).take s))
 | 0,_=>by unfold A0X;rw [D8X,Int.sub_self]
 | k+1,hk=>by
  have ih:=B7b (p:=p) hP hn hs hsm k (by omega)
  have hln:(I7 p us (d.map (·.2)) m n).length=n:=by unfold I7;simp
  have hml:(d.map (·.2)).length=d.length:=D6J ..
  have hrg:=hP.rng (s+k) (by omega)
  have hat:=A3T (offs:=I7 p us (d.map (·.2)) m n) hP (show s+k<(d.map (·.2)).length by omega)
  have he:gI (I7 p us (d.map (·.2)) m n) (s+k)=if (k:Int)<p.buy then 0 else J9 (gU us (gI (d.map (·.2)) (s+k)).toNat).net p.rate:=by
   unfold I7
   rw [M8 _ (by omega)]
   unfold B3v
   rw [show (s+k) % m=k by rw [Nat.add_mod,hs,D6Q,Nat.mod_mod,D9F (by omega)]]
   split<;>split<;>first | rfl | omega
  have hdr:at_ (d.drop s) k=at_ d (s+k):=by unfold at_;rw [D6D,D6D,D8o]
  have hts:=K9 (l:=I7 p us (d.map (·.2)) m n) (i:=s+k) (by omega)
  rw [←D9m]
  unfold A0X
  rw [ih,hts,he,hdr,←C6o d (by omega)]
  split
  ·rw [D8R]
   show _=(less1 _ _ _,_)
   rw [he,if_pos (by assumption),B8q (by rw [P8];exact hrg.2)]
  ·show _=(less1 _ _ _,_)
   rw [he,if_neg (by assumption),hat]
   congr 1
   show _ - _+_=_
   omega
theorem B9H {p:B1} {us:List B2} {d:List QE} {m:Nat} (hP:A0a us (d.map (·.2))) {q:Nat} (hn:q * m≤d.length):∀ r,r≤q →
  bgF p us d m r=(D0 us (d.map (·.2)) (I7 p us (d.map (·.2)) m (q * m)) (r * m),A2 ((I7 p us (d.map (·.2)) m (q * m)).take (r * m)))
 | 0,_=>by rw [Nat.zero_mul];rfl
 | r+1,hr=>by
  have ih:=B9H (p:=p) hP hn r (by omega)
  have e:(r+1) * m=r * m+m:=Nat.succ_mul r m
  have h1:r * m+m≤q * m:=by rw [←e];exact D7E m hr
  have h2:=B7b (p:=p) hP hn (s:=r * m) (Nat.mul_mod_left ..) h1 m (D6M _)
  unfold bgF
  rw [ih]
  simp only
  rw [h2,e]
  congr 1
  show _+(_ - _)=_
  omega
theorem B6a {us:List B2} {mine:List Int} (hm:N7 us mine):A0a us ((E1 us mine).map (·.2)):=by
 have hp:((E1 us mine).map (·.2)).Perm mine:=by
  refine ((A3r us mine).map _).trans (List.Perm.of_eq ?_)
  rw [D8Y]
  exact (D7V fun x _=>rfl).trans (List.map_id mine)
 have hnd:mine.Pairwise (·≠·):=by
  rw [D8n]
  intro i j hi hj hij
  have:=hm.lt i j hij hj
  simp only [gI,D6D,D6K hi,D6K hj,Option.getD_some] at this
  omega
 have hr:∀ k,k<((E1 us mine).map (·.2)).length→0≤gI ((E1 us mine).map (·.2)) k∧(gI ((E1 us mine).map (·.2)) k).toNat<us.length:=fun k hk=>A8J (P:=fun x=>0≤x∧x.toNat<us.length) hp (fun x hx=>by obtain ⟨j,hj,rfl⟩:=D5 hx;exact hm.rng j hj) hk
 refine ⟨hr,fun i k hik hk=>?_⟩
 have h1:=(hp.symm.pairwise hnd (fun h=>h.symm))
 have:=B3W h1 hik hk
 have:=hr i (by omega)
 have:=hr k hk
 omega
theorem A0a.take {us:List B2} {l:List Int} (h:A0a us l) (n:Nat):A0a us (l.take n):=by
 have e:∀ k,k<(l.take n).length→gI (l.take n) k=gI l k∧k<l.length:=fun k hk=>by
  rw [D6N] at hk
  unfold gI
  rw [D6D,D6D,D6S (by omega)]
  exact ⟨rfl,by omega⟩
 exact ⟨fun k hk=>by rw [(e k hk).1];exact h.rng k (e k hk).2,fun i k hik hk=>by rw [(e k hk).1,(e i (by omega)).1];exact h.ne i k hik (e k hk).2⟩
theorem A8Y {us:List B2} {l offs:List Int} {n:Nat}:∀ k,k≤n→D0 us (l.take n) offs k=D0 us l offs k
 | 0,_=>rfl
 | k+1,hk=>by
  unfold D0
  rw [A8Y k (by omega)]
  congr 1
  unfold gI;rw [D6D,D6D,D6S (by omega)]
set_option maxHeartbeats 400000 in
theorem C1N (p:B1) (us:List B2) (mine:List Int) (hps:A2X p) (hright:H2 p=true) (hk:p.kind=3) (hp:B0V p) (hu:E3 us) (hm:N7 us mine) (st:St) :
  S P 217 [B7 p,C6 us,B0 mine] st fun v st'=>v=.tuple [C6 (W9 p us mine).1,eI (W9 p us mine).2]∧st'=st:=by
 have hB:=hp.buy
 have hG:=hp.get
 have hml:=hm.len
 have hul:=hu.len
 have hdl:((E1 us mine).map (·.2)).length=mine.length:=by rw [D6J,A1Y]
 have hP:=B6a hm
 obtain ⟨m,hm1⟩:∃ m:Nat,(m:Int)=p.buy+p.get:=⟨(p.buy+p.get).toNat,by omega⟩
 have w1:IntKind.i64.wrap (p.buy+p.get)=(m:Int):=by rw [A5 (by omega) (by omega)];omega
 have hq0:mine.length / m * m≤mine.length:=Nat.div_mul_le_self ..
 have hbg:=B9H (p:=p) (m:=m) hP (q:=mine.length / m) (by rw [A1Y];exact hq0) _ (D6M _)
 have hout:W9 p us mine=(if (decide (A2 (I7 p us ((E1 us mine).map (·.2)) m (mine.length / m * m))>0)&&p.closes)=true then closeB (D0 us ((E1 us mine).map (·.2)) (I7 p us ((E1 us mine).map (·.2)) m (mine.length / m * m)) (mine.length / m * m)) (((E1 us mine).map (·.2)).take (mine.length / m * m)) else D0 us ((E1 us mine).map (·.2)) (I7 p us ((E1 us mine).map (·.2)) m (mine.length / m * m)) (mine.length / m * m),A2 (I7 p us ((E1 us mine).map (·.2)) m (mine.length / m * m))):=by
  have hl:(I7 p us ((E1 us mine).map (·.2)) m (mine.length / m * m)).length=mine.length / m * m:=by unfold I7;simp
  unfold W9
  simp only
  rw [show (p.buy+p.get).toNat=m by omega,A1Y,hbg]
  simp only
  rw [show (I7 p us ((E1 us mine).map (·.2)) m (mine.length / m * m)).take (mine.length / m * m)=I7 p us ((E1 us mine).map (·.2)) m (mine.length / m * m) from D8v (by omega),List.map_take]
 refine F4 [3] Tryz.func217 ?_
 refine I2 (A7S p hps hright st) ?_
 rw [show (p.kind != 3)=false from by rw [hk];rfl];conv=>whnf
 refine I2 (B8Q us mine hu hm st) ?_
 refine B3 (C0n us mine hu hm st) ?_
 clear hbg
 generalize (E1 us mine).map (·.2)=D at *
 conv=>whnf
 rw [w1,D6L (show ¬(m:Int)=0 by omega)];conv=>whnf
 have hN:IntKind.i64.wrap ((D.length:Int) - (D.length:Int).tmod (m:Int))=((mine.length / m * m:Nat):Int):=by
  rw [hdl,D8q (by omega),←Int.natCast_emod]
  have:=Nat.div_add_mod mine.length m
  rw [Nat.mul_comm] at this
  rw [A5 (by omega) (by omega)];omega
 rw [hN]
 generalize hNe:mine.length / m * m=N at *
 refine ⟨rfl,⟨by omega,by omega,by omega⟩,?_⟩;conv=>whnf
 refine lp N [1,3,8,9,10,11] (fun i vs s=>∃ sv,vs=[C6 us,.fptr (B7 p) 0,.arr 1 N (fun i=>eI (D.getD ((0:Int).toNat+i) default)),eI m,sv,eI i]∧E6 2 1 eI (I7 p us D m i) st sv s) ?_ ?_
 ·conv=>whnf
  exact ⟨.emp,rfl,E6.start _ _ _ _⟩
 ·rintro i vs s hi ⟨sv,rfl,hc⟩
  conv=>whnf
  cases hd:decide ((i:Int)<(N:Int))
  ·obtain rfl:=C5 hd hi
   have hln:(I7 p us D m i).length=i:=by unfold I7;simp
   have hb0:∀ k,k<(I7 p us D m i).length→0≤gI (I7 p us D m i) k∧gI (I7 p us D m i) k≤(gU us (gI (D.take i) k).toNat).net:=fun k hk=>by
    have e:gI (D.take i) k=gI D k:=by unfold gI;rw [D6D,D6D,D6S (by omega)]
    rw [e]
    unfold I7
    rw [M8 _ (by omega)]
    unfold B3v
    have h9:=hu.at0 (gI D k).toNat
    split
    ·exact ⟨(T7 _ _).1,A5p h9 hp.rate.1 hp.rate.2⟩
    ·exact ⟨D7l _,h9⟩
   have h0s:∀ x∈I7 p us D m i,0≤x:=fun x hx=>by obtain ⟨k,hk,rfl⟩:=D5 hx;exact (hb0 k hk).1
   have hsum:A2 (I7 p us D m i)≤1000000000000000:=by
    have h5:=A2z hu (hP.take i) (offs:=I7 p us D m i) (by rw [hln,D6N];omega) hb0 (I7 p us D m i).length (D6M _)
    rw [D6O] at h5
    have:=h5.sum
    have:=hu.sum
    have:=C1 (h5.ok hu).nets0
    omega
   have hE:A2P us (D.take i) (I7 p us D m i) p.closes=W9 p us mine:=by
    rw [hout]
    unfold A2P
    rw [hln,A8Y i (D6M _)]
    have hn:=C1 h0s
    by_cases hz:A2 (I7 p us D m i)=0
    ·rw [if_pos hz,hz,A3f (A3U h0s hz) i (by omega)];rfl
    ·rw [if_neg hz,D7m (show A2 (I7 p us D m i)>0 by omega),D6Y]
   rw [←hE];conv=>whnf
   have hsh:A6 [C6 us,.arr 1 i (fun i=>eI (D.getD ((0:Int).toNat+i) default)),sv,eB p.closes] s [C6 us,B0 (D.take i),B0 (I7 p us D m i),eB p.closes] st:=by
    refine A6.cons (t:=s) (A6.keep _ _) (A6.cons (t:=s) ?_ (A6.cons hc.shift (A6.keep _ _)))
    have e:B0 (D.take i)=.arr 1 i (fun k=>eI (gI (D.take i) k)):=by unfold B0 A8;rw [D6N,D9K (by omega)]
    rw [e]
    refine A6.arr fun k hk=>?_
    show eI (D.getD ((0:Int).toNat+k) default)=eI ((D.take i).getD k default)
    rw [show (0:Int).toNat+k=k by simp,D6D,D6D,D6S hk]
   refine E5 hsh (B3 (B5h us (D.take i) (I7 p us D m i) p.closes hu (hP.take i) (by rw [D6N];omega) (by rw [hln,D6N];omega) hb0 hsum st) ?_);conv=>whnf
   exact ⟨rfl,rfl⟩
  ·have hi':=E2 hd
   have hr:=hP.rng i (by omega)
   have hrem:(i:Int).tmod (m:Int)=((i % m:Nat):Int):=by rw [D8q (by omega),Int.natCast_emod]
   have hln:(I7 p us D m i).length=i:=by unfold I7;simp
   have hsn:I7 p us D m (i+1)=I7 p us D m i++[B3v p us D m i]:=by unfold I7;rw [D8m,D7k];rfl
   have hbo:B3v p us D m i=if ((i % m:Nat):Int)≥p.buy then J9 (gU us (gI D i).toNat).net p.rate else 0:=rfl
   conv=>whnf
   refine ⟨[],[],List.range 6,by kernel_rfl,?_⟩;conv=>whnf
   rw [D6L (show ¬(m:Int)=0 by omega)];conv=>whnf
   rw [hrem]
   refine B9 (fun h1=>?_) (fun h1=>?_)<;>rw [h1]
   case' refine_1 =>
    rw [if_pos (D6H h1)] at hbo;conv=>whnf
    refine ⟨[],[],List.range 12,by kernel_rfl,?_⟩;conv=>whnf
    refine E7 ?_
    rw [show (0:Int).toNat+(i:Int).toNat=i by simp]
    refine ⟨rfl,⟨by show 0≤gI D i;omega,by show gI D i<(us.length:Int);omega⟩,?_⟩;conv=>whnf
    refine ⟨_,H8 (A8S (gU us (gI D i).toNat).net p.rate _),?_⟩
    rw [←hbo]
   case' refine_2 =>
    rw [if_neg (D6G h1)] at hbo
   all_goals (conv=>whnf)
   all_goals refine E6.app (q:=r2) (y:=B3v p us D m i) rfl rfl rfl rfl rfl (by first | rfl | (rw [hbo];rfl)) (by show (_+1) * 8≤140737488355328;omega) hc (fun sv' s' hc'=>?_)
   all_goals (conv=>whnf)
   all_goals refine ⟨rfl,?_⟩
   all_goals (conv=>whnf)
   all_goals exact nx hi' ⟨sv',by rw [B4 (by omega)],by rw [hsn];exact hc'⟩
theorem C2x (used:List Bool) (l:List QE):∃ pre,l=pre++(O5 used l).2∧∀ e∈pre,used.getD e.2.toNat default=true∨(O5 used l).1=some e.2:=by
 induction l with
 | nil=>exact ⟨[],rfl,fun e h=>by cases h⟩
 | cons e l ih =>
  by_cases hu:used.getD e.2.toNat default=true
  ·have ht:O5 used (e::l)=O5 used l:=by
    show (if used.getD e.2.toNat default=true then O5 used l else (some e.2,l))=_
    rw [if_pos hu]
   obtain ⟨pre,h1,h2⟩:=ih
   rw [ht]
   exact ⟨e::pre,by rw [D8Z,←h1],fun x hx=>by
    rcases D8f.1 hx with rfl | hx
    ·exact .inl hu
    ·exact h2 x hx⟩
  ·have ht:O5 used (e::l)=(some e.2,l):=by
    show (if used.getD e.2.toNat default=true then O5 used l else (some e.2,l))=_
    rw [if_neg hu]
   rw [ht]
   exact ⟨[e],rfl,fun x hx=>by rw [D7i] at hx;subst hx;exact .inr rfl⟩
theorem B9n {used:List Bool} {pre:List QE} (h:∀ e∈pre,used.getD e.2.toNat default=true) (l:List QE):O5 used (pre++l)=O5 used l:=by
 induction pre with
 | nil=>rfl
 | cons e pre ih =>
  show (if used.getD e.2.toNat default=true then O5 used (pre++l) else (some e.2,pre++l))=_
  rw [if_pos (h e (D7f ..))]
  exact ih fun x hx=>h x (D7d _ hx)
def A4m (E:Nat→List QE) (n:Nat) (s:MSt):Prop:=∀ k,k<n→∃ pre,E k=pre++s.es k∧∀ e∈pre,s.used.getD e.2.toNat default=true
theorem A6x {used:List Bool} {i:Nat} (hi:i<used.length) (j:Nat):(used.set i true).getD j default=if j=i then true else used.getD j default:=by
 simp only [D6D,D8G]
 by_cases h:j=i
 ·subst h;simp [hi]
 ·rw [if_neg (fun e=>h e.symm),if_neg h]
theorem A4m.take {E:Nat→List QE} {us:List B2} {n:Nat} {s s':MSt} (h:A4m E n s) (hok:MOk us n s) {k:Nat} (hk:k<n) (ht:A0Y k s=some s'):A4m E n s':=by
 obtain ⟨pre0,p1,p2⟩:=C2x s.used (s.es k)
 obtain ⟨_,t2,_,_⟩:=A3H s.used (s.es k)
 unfold A0Y at ht
 split at ht
 ·cases ht
 ·rename_i i hi
  cases ht
  obtain ⟨e0,he0,rfl,_⟩:=t2 i hi
  have hlt:e0.2.toNat<s.used.length:=by rw [hok.len];exact (hok.rng k hk e0 he0).2
  intro j hj
  obtain ⟨pre,h1,h2⟩:=h j hj
  have hmono:∀ e:QE,s.used.getD e.2.toNat default=true→(s.used.set e0.2.toNat true).getD e.2.toNat default=true:=fun e he=>by
   rw [A6x hlt];split
   ·rfl
   ·exact he
  by_cases ej:j=k
  ·subst ej
   refine ⟨pre++pre0,?_,fun e he=>?_⟩
   ·show E j=_++A0k s.es j _ j
    rw [H1,D8e,←p1];exact h1
   ·rcases D7T.1 he with he | he
    ·exact hmono e (h2 e he)
    ·rcases p2 e he with he | he
     ·exact hmono e he
     ·rw [hi] at he
      have he:=Option.some.inj he
      show (s.used.set _ true).getD _ default=true
      rw [A6x hlt,if_pos (by rw [he])]
  ·refine ⟨pre,?_,fun e he=>hmono e (h2 e he)⟩
   show E j=_++A0k s.es k _ j
   rw [N4 ej];exact h1
theorem A4m.takes {E:Nat→List QE} {us:List B2} {n:Nat} {s:MSt} (h:A4m E n s) (hok:MOk us n s) {k:Nat} (hk:k<n):∀ {c:Nat} {s':MSt},S9 k c s=some s'→A4m E n s'
 | 0,s',e=>by cases e;exact h
 | c+1,s',e=>by
  unfold S9 at e
  obtain ⟨s1,h1,h2⟩:=D7P.1 e
  exact (A4m.takes h hok hk h1).take (hok.takes hk h1) hk h2
theorem A4m.parts {E:Nat→List QE} {us:List B2} {p:B1} {s:MSt} (h:A4m E p.parts.length s) (hok:MOk us p.parts.length s):∀ {k:Nat} {s':MSt},k≤p.parts.length→L6 p.parts k s=some s'→A4m E p.parts.length s'
 | 0,s',_,e=>by cases e;exact h
 | k+1,s',hk,e=>by
  unfold L6 at e
  obtain ⟨s1,h1,h2⟩:=D7P.1 e
  exact (A4m.parts h hok (by omega) h1).takes (MOk.parts hok (by omega) h1) (by omega) h2
def A9B (p:B1) (ms:MSt):List Int:=match L6 p.parts p.parts.length ms with | none=>[] | some s=>C4 s.l
theorem C9h (p:B1) (hp:A4k p) (us:List B2) (hul:us.length≤100000) (E:Nat→List QE) (L:List (List Int)) (hL:L.length=p.parts.length) (hLE:∀ k,k<p.parts.length→L.getD k default=(E k).map (·.2)) (hE:∀ k,k<p.parts.length→(E k).length≤100000∧∀ e∈E k,0≤e.2∧e.2.toNat<us.length)
  (ms:MSt) (hl0:ms.l=[]) (hm:MOk us p.parts.length ms) (hpre:A4m E p.parts.length ms) (bu:Nat) (gu:Nat→AV) (st:St) (bl:Nat) (gl:Nat→AV) (hbl:st bl=some ⟨29,1,L.length,gl⟩) (hgl:∀ k,k<L.length→gl k=B0 (L.getD k default)) (hbu:st bu=some ⟨4,1,us.length,gu⟩) (hgu:∀ k,k<us.length→gu k=eB (ms.used.getD k default)) :
  S P 257 [B7 p,C6 us,.own 1 bl 0 L.length,.own 1 bu 0 us.length] st fun v st'=>v=B0 (A9B p ms)∧st'=st:=by
 refine S.post (post:=fun v st'=>((v=.emp∧A9B p ms=[])∨v=B0 (A9B p ms))∧F1 st st') ?_
  (fun v st' ⟨h,hs⟩=>⟨_,st,⟨rfl,rfl⟩,by
   rcases h with ⟨rfl,h⟩ | rfl
   ·rw [h];exact (hs.shift _).trans (I9 1 _)
   ·exact hs.shift _⟩)
 have hn8:=hp.n8
 refine SyW [4] Tryz.func257 ?_
 have main:∀ (tv:AV) (s0:St) ,Col 4 1 (fun k=>eB (ms.used.getD k default)) st us.length tv s0→True:=fun _ _ _=>trivial
 conv=>whnf
 refine Col.apps (q:=r4) (f:=fun k=>eB (ms.used.getD k default)) rfl rfl rfl rfl (C9u hbu rfl (by show 0+us.length≤us.length;omega)) (fun i hi=>by show gu (0+i)=eB (ms.used.getD (0+i) default);rw [D6Q];exact hgu i hi) (by show (0+us.length) * 1≤_;omega) (Col.start _ _ _ st) (fun tv s0 hc0=>?_)
 rw [D6Q] at hc0
 clear main
 conv=>whnf
 refine lp p.parts.length [2,4,9,10,11] (fun i vs s=>∃ sv tv s0 si,vs=[.own 1 bl 0 L.length,.fptr (B7 p) 0,sv,tv,eI i]∧L6 p.parts i ms=some si∧Col 4 1 (fun k=>eB (si.used.getD k default)) st us.length tv s0∧E6 3 1 eI si.l s0 sv s) ?_ ?_
 ·conv=>whnf
  exact ⟨.emp,tv,s0,ms,rfl,rfl,hc0,by rw [hl0];exact E6.start _ _ _ _⟩
 ·clear hc0
  rintro i vs s hi ⟨sv,tv,s0,si,rfl,hsi,hc0,hc1⟩
  have hmi:=MOk.parts hm hi hsi
  have hpi:=hpre.parts hm hi hsi
  have hleni:=A2b hp hi hsi
  rw [hl0,D7X] at hleni;conv=>whnf
  cases hd:decide ((i:Int)<(p.parts.length:Int))
  ·obtain rfl:=C5 hd hi
   have hone:A9B p ms=C4 si.l:=by unfold A9B;rw [hsi]
   conv=>whnf
   refine E5 hc1.shift (B3 (C2a si.l (by omega) _) ?_);conv=>whnf
   exact ⟨.inr (by rw [hone];rfl),hc0.sup⟩
  ·have hi':=E2 hd
   have hLi:L.getD (i:Int).toNat default=(E i).map (·.2):=by rw [D6R];exact hLE i hi'
   obtain ⟨hEl,hEr⟩:=hE i hi'
   have hct:=hp.at hi'
   obtain ⟨pre,hpr1,hpr2⟩:=hpi i hi'
   have hcn:(p.parts.getD (i:Int).toNat default).count=(((p.parts.getD i default).count.toNat:Nat):Int):=by rw [D6R];omega
   have hfin:L6 p.parts (i+1) ms=S9 i (p.parts.getD i default).count.toNat si:=by
    conv=>lhs;unfold L6
    rw [hsi];rfl
   have hnone:∀ n,n≤(p.parts.getD i default).count.toNat→S9 i n si=none→A9B p ms=[]:=fun n hn hnn=>by
    have h1:=A6C hnn hn
    rw [←hfin] at h1
    unfold A9B;rw [A6l h1 hi']
   have hC100:(p.parts.getD i default).count.toNat≤100:=by omega
   generalize (p.parts.getD i default).count.toNat=C at *
   conv=>whnf
   refine lp (E i).length [2,4,9,10,11,12,13] (fun k vs s=>∃ (sv tv:AV) (s0:St) (n:Nat) (si2:MSt),vs=[.own 1 bl 0 L.length,.fptr (B7 p) 0,sv,tv,eI i,eI n,eI k]∧n≤C∧S9 i n si=some si2∧O5 si2.used (si2.es i)=O5 si2.used ((E i).drop k)∧Col 4 1 (fun k=>eB (si2.used.getD k default)) st us.length tv s0∧E6 3 1 eI si2.l s0 sv s) ?_ ?_
   ·conv=>whnf
    exact ⟨sv,tv,s0,0,si,rfl,D7e _,rfl,by rw [List.drop_zero,hpr1,B9n hpr2],hc0,hc1⟩
   ·clear hc0 hc1
    rintro k vs s hk ⟨sv,tv,s0,n,si2,rfl,hn,hs2,htk,hc0,hc1⟩
    have hm2:=hmi.takes hi' hs2
    have hlen2:=A2f hs2
    have hlv:=hc1.sup bl _ (hc0.sup bl _ hbl)
    have hgi:gl (0+(i:Int).toNat)=B0 (L.getD (i:Int).toNat default):=by rw [D6Q];exact hgl _ (by omega)
    conv=>whnf
    refine E7 ?_
    refine J6 hlv hgi ?_
    rw [hLi]
    have hml:((E i).map (·.2)).length=(E i).length:=D6J ..
    generalize hMe:(E i).map (·.2)=Mi at *
    rw [hml]
    cases hd1:decide ((k:Int)<((E i).length:Int))
    case' false =>
     have hbad:n<C→A9B p ms=[]:=fun hlt=>by
      obtain rfl:=C5 hd1 hk
      refine hnone (n+1) hlt ?_
      unfold S9
      rw [hs2]
      show A0Y i si2=none
      unfold A0Y
      rw [htk,List.drop_length];rfl
     conv=>whnf
    case' true =>
     have hk':=E2 hd1
     conv=>whnf
     refine E7 ?_
     rw [hcn]
     cases hd2:decide ((n:Int)<(C:Int))
     case' false =>
      have hbad:n<C→A9B p ms=[]:=fun hlt=>absurd hd2 (by rw [D7m (by omega)];simp)
      conv=>whnf
     case' true =>
      have hnC:=E2 hd2
      have hMk:Mi.getD (k:Int).toNat default=(at_ (E i) k).2:=by rw [←hMe,D6R];exact D4 (fun e:QE=>e.2) _ hk'
      have hu:0≤(at_ (E i) k).2∧(at_ (E i) k).2.toNat<us.length:=hEr _ (A7 hk')
      have hdrop:(E i).drop k=at_ (E i) k::(E i).drop (k+1):=by
       rw [D8I hk'];simp [at_,hk']
      have hul2:us.length=si2.used.length:=hm2.len.symm
      rcases hc0 with ⟨h0,rfl,rfl⟩ | ⟨h0,bt,g,hbt,rfl,rfl,hg⟩
      ·omega
      have hbs:=hc1.sup bt _ (A0 ..)
      conv=>whnf
      refine E7 ?_
      refine J6 hlv hgi ?_
      rw [hLi]
      refine E7 ?_
      rw [←hMk] at hu
      refine E7 ?_
      refine ldV hbs rfl (by omega) (v:=eB (si2.used.getD (Mi.getD (k:Int).toNat default).toNat default)) (by rw [D6Q];exact hg _ hu.2) ?_;conv=>whnf
      refine B9 (fun h5=>?_) (fun h5=>?_)<;>rw [h5]
      ·have hfr:si2.used.getD (Mi.getD (k:Int).toNat default).toNat default=false:=by simpa using h5
       have htk2:O5 si2.used (si2.es i)=(some (Mi.getD (k:Int).toNat default),(E i).drop (k+1)):=by
        rw [htk,hdrop,hMk]
        show (if si2.used.getD (at_ (E i) k).2.toNat default=true then _ else _)=_
        rw [if_neg (by rw [←hMk,hfr];simp)]
       have hs3:S9 i (n+1) si=some ⟨si2.used.set (Mi.getD (k:Int).toNat default).toNat true,A0k si2.es i ((E i).drop (k+1)),si2.l++[(Mi.getD (k:Int).toNat default)]⟩:=by
        unfold S9
        rw [hs2]
        show A0Y i si2=_
        unfold A0Y
        rw [htk2]
       conv=>whnf
       refine E7 ?_
       refine stV hbs rfl (by omega) (v:=eB (si2.used.getD (Mi.getD (k:Int).toNat default).toNat default)) (by rw [D6Q];exact hg _ hu.2) (by rfl) ?_
       have hc2:=Col.write hc1 (y':=⟨4,1,us.length,I4 g (0+(Mi.getD (k:Int).toNat default).toNat) (eB true)⟩) (A0 ..)
       rw [C0] at hc2;conv=>whnf
       refine E6.app (q:=r3) (y:=(Mi.getD (k:Int).toNat default)) (L:=si2.l) rfl rfl rfl rfl rfl rfl (by show (_+1) * 8≤140737488355328;omega) hc2 (fun sv' s' hc'=>?_);conv=>whnf
       refine G2 ?_
       refine nx hk' ⟨sv',.own 1 bt 0 us.length,_,n+1,_,by rw [B4 (by omega),B4 (by omega)],hnC,hs3,?_,.inr ⟨h0,bt,_,hbt,rfl,rfl,fun j hj=>?_⟩,hc'⟩
       ·show O5 _ (A0k si2.es i _ i)=_
        rw [H1]
       ·show I4 g (0+(Mi.getD (k:Int).toNat default).toNat) (eB true) j=eB ((si2.used.set (Mi.getD (k:Int).toNat default).toNat true).getD j default)
        rw [D6Q,A6x (by omega)]
        by_cases ej:j=(Mi.getD (k:Int).toNat default).toNat
        ·rw [if_pos ej,ej,A4]
        ·rw [if_neg ej,H4 ej];exact hg j hj
      ·have hfr:si2.used.getD (Mi.getD (k:Int).toNat default).toNat default=true:=by simpa using h5
       conv=>whnf
       refine G2 ?_
       refine nx hk' ⟨sv,.own 1 bt 0 us.length,_,n,si2,by rw [B4 (by omega)],hn,hs2,?_,.inr ⟨h0,bt,g,hbt,rfl,rfl,hg⟩,hc1⟩
       rw [htk,hdrop]
       show (if si2.used.getD (at_ (E i) k).2.toNat default=true then O5 si2.used ((E i).drop (k+1)) else _)=_
       rw [if_pos (by rw [←hMk];exact hfr)]
    all_goals
     refine E7 ?_
     rw [hcn]
     cases hd3:decide ((n:Int)<(C:Int))
     ·obtain rfl:n=C:=by have:=D6G hd3;omega
      conv=>whnf
      refine G2 ?_
      exact nx hi' ⟨sv,tv,s0,si2,by rw [B4 (by omega)],by rw [hfin];exact hs2,hc0,hc1⟩
     ·have hb:=hbad (E2 hd3)
      conv=>whnf
      exact ⟨.inl ⟨rfl,hb⟩,hc0.sup.trans hc1.sup⟩
abbrev RL (ls:List Int) (svl:AV):St→St→Prop:=fun s t=>ROut F1 2 1 (fun k=>eI (gI ls k)) ls.length s svl t
abbrev RA (all ls:List Int) (sva svl:AV):St→St→Prop:=fun s t=>ROut (RL ls svl) 3 1 (fun k=>eI (gI all k)) all.length s sva t
theorem B4w (ls:List Int) (svl:AV):L2 (RL ls svl):=U9 J5 _ _ _ _ _
theorem B9E (all ls:List Int) (sva svl:AV):L2 (RA all ls sva svl):=U9 (B4w ls svl) _ _ _ _ _
theorem RA.appA {all ls:List Int} {sva svl:AV} {s t:St} {y:Int} {x:AV} {k:KK} {g:Nat→AV} (h:RA all ls sva svl s t) (hs:A0g 1 t x=some (1,g)) (hg:g 0=eI y) (hb:(all.length+1) * 8≤140737488355328)
  (hk:∀ sva' t',RA (all++[y]) ls sva' svl s t'→k sva' t'):A5L T 29 sva x t k :=
 ROut.app (q:=r3) (f:=fun k=>eI (gI (all++[y]) k)) (B4w ls svl) rfl rfl rfl rfl hs (by rw [hg];show eI y=eI (gI _ _);rw [A8v]) hb (ROut.congr h fun k hk=>by show eI _=eI _;rw [N5 hk]) (fun sv' t' h'=>hk sv' t' (by
  show ROut _ _ _ _ (all++[y]).length _ _ _
  rw [D6P];exact h'))
theorem RA.appL {all ls:List Int} {sva svl:AV} {s t:St} {y:Int} {x:AV} {k:KK} {g:Nat→AV} (h:RA all ls sva svl s t) (hs:A0g 1 t x=some (1,g)) (hg:g 0=eI y) (hb:(ls.length+1) * 8≤140737488355328)
  (hk:∀ svl' t',RA all (ls++[y]) sva svl' s t'→k svl' t'):A5L T 110 svl x t k:=by
 obtain ⟨s0,hc,h⟩:=h
 refine ROut.app (q:=r2) (f:=fun k=>eI (gI (ls++[y]) k)) J5 rfl rfl rfl rfl hs (by rw [hg];show eI y=eI (gI _ _);rw [A8v]) hb (ROut.congr h fun k hk=>by show eI _=eI _;rw [N5 hk]) (fun sv' t' h'=>hk sv' t' ⟨s0,hc,?_⟩)
 show ROut _ _ _ _ (ls++[y]).length _ _ _
 rw [D6P];exact h'
theorem RA.start (s:St):RA [] [] .emp .emp s s:=ROut.start (ROut.start (F1.refl s) _ _ _) _ _ _
theorem RA.shift {all ls:List Int} {sva svl:AV} {s t:St} (h:RA all ls sva svl s t) (a b:AV):∃ t2,A6 [a,sva,svl,b] t [a,B0 all,B0 ls,b] t2∧F1 s t2:=by
 obtain ⟨t1,h1,h2⟩:=ROut.shift (B4w ls svl) h
 obtain ⟨t2,h3,h4⟩:=ROut.shift J5 h2
 exact ⟨t2,A6.cons (A6.keep _ _) (A6.cons h1 (A6.cons h3 (A6.keep _ _))),h4⟩
def A4d (u:List Bool) (l:List Int):List Bool:=l.foldl (fun u x=>u.set x.toNat true) u
theorem B8X (u:List Bool) (l:List Int):(A4d u l).length=u.length:=by
 unfold A4d
 induction l generalizing u with
 | nil=>rfl
 | cons x l ih=>rw [D7U,ih,D7W]
theorem B8W {u:List Bool} {l:List Int} (hl:∀ x∈l,x.toNat<u.length) (j:Nat):(A4d u l).getD j default=true↔u.getD j default=true∨j∈l.map Int.toNat:=by
 unfold A4d
 induction l generalizing u with
 | nil=>simp
 | cons x l ih =>
  rw [D7U,ih (fun y hy=>by rw [D7W];exact hl y (D7d _ hy)),A6x (hl x (D7f ..)),D7H,D8f]
  by_cases h:j=x.toNat
  ·simp [h]
  ·rw [if_neg h];simp [h]
theorem B0l {us:List B2} {l offs l' offs':List Int} (h:l.length=offs.length):∀ k,k≤offs'.length→k≤l'.length→D0 us (l++l') (offs++offs') (offs.length+k)=D0 (D0 us l offs offs.length) l' offs' k
 | 0,_,_=>by
  rw [D8X]
  have:∀ n,n≤offs.length→D0 us (l++l') (offs++offs') n=D0 us l offs n:=fun n=>by
   induction n with
   | zero=>intro _;rfl
   | succ n ih =>
    intro hn
    unfold D0
    rw [ih (by omega),N5 (by omega),N5 (by omega)]
  exact this _ (D6M _)
 | k+1,h1,h2=>by
  have ih:=B0l (us:=us) (l':=l') (offs':=offs') h k (by omega) (by omega)
  have e:∀ (a b:List Int),a.length=offs.length→gI (a++b) (offs.length+k)=gI b k:=fun a b ha=>by
   unfold gI
   rw [D6D,D6D,D7a (by omega),ha,Nat.add_sub_cancel_left]
  rw [←D9m]
  unfold D0
  rw [ih,e l l' h,e offs offs' rfl]
structure C5S (p:B1) (us:List B2) (E:Nat→List QE) (D:Nat) (b:BSt) (ls:List Int):Prop where
 ok:BOk p us D b
 pre:A4m E p.parts.length ⟨b.ms.used,b.ms.es,[]⟩
 len:ls.length=b.taken.length
 out:b.out=D0 us b.taken ls ls.length
 sum:A2 ls=b.all
 pos:b.taken=[]∨0<b.all
 bnd:∀ k,k<ls.length→0≤gI ls k∧gI ls k≤(gU us (gI b.taken k).toNat).net
 nd:(b.taken.map Int.toNat).Nodup
 used:∀ x∈b.taken,b.ms.used.getD x.toNat default=true
theorem C5S.step {p:B1} (hp:A4k p) {us:List B2} (hu:E3 us) {E:Nat→List QE} {D:Nat} {b:BSt} {ls:List Int} (h:C5S p us E D b ls) {s:MSt} (hs:L6 p.parts p.parts.length ⟨b.ms.used,b.ms.es,[]⟩=some s) (hc:I0 us s.l>p.amount) :
  E4 us (C4 s.l)=J0 b.out (C4 s.l)∧C5S p us E D ⟨A3w b.out (C4 s.l) (I0 us s.l - p.amount),s,b.taken++C4 s.l,b.all+(I0 us s.l - p.amount)⟩ (ls++D2 (I0 us s.l - p.amount) (E4 us (C4 s.l))):=by
 obtain ⟨k1,k2,k3⟩:=h.ok.step hp hu hs hc
 have hok0:MOk us p.parts.length ⟨b.ms.used,b.ms.es,[]⟩:=⟨h.ok.ok.len,h.ok.ok.rng,h.ok.ok.srt,fun x hx=>by simp at hx⟩
 have hok:=MOk.parts hok0 (D6M _) hs
 have htr:=Y8.parts (Y8.start b.ms.used b.ms.es) hok0 (D6M _) hs
 have hpre:=h.pre.parts hok0 (D6M _) hs
 have hN:E4 us (C4 s.l)=J0 b.out (C4 s.l):=by
  unfold E4 J0
  exact D7V fun x hx=>by rw [h.ok.same _ (htr.free x (V6.1 hx))]
 have hW:=k1.weights
 rw [←hN] at hW
 obtain ⟨a1,a2,a3⟩:=T2 hW
 have hle:=fun {k} (hk:k<(E4 us (C4 s.l)).length)=>A3u hW (by have:=k1.le;rw [←hN] at this;exact this) hk
 have hnl:=A5j us (C4 s.l)
 have hlf:A3w b.out (C4 s.l) (I0 us s.l - p.amount)=D0 b.out (C4 s.l) (D2 (I0 us s.l - p.amount) (E4 us (C4 s.l))) (D2 (I0 us s.l - p.amount) (E4 us (C4 s.l))).length:=by
  unfold A3w;rw [←hN,a2,hnl]
 have hlen:=h.len
 generalize D2 (I0 us s.l - p.amount) (E4 us (C4 s.l))=X at *
 refine ⟨hN,⟨k2,hpre,?_,?_,?_,?_,?_,?_,?_⟩⟩
 ·show (ls++X).length=(b.taken++C4 s.l).length
  rw [D6P,D6P];omega
 ·show A3w _ _ _=D0 us (b.taken++C4 s.l) (ls++X) (ls++X).length
  rw [hlf,h.out,D6P,B0l h.len.symm X.length (D6M _) (by omega)]
 ·show A2 (ls++X)=_
  rw [F5,h.sum,a1]
 ·refine .inr ?_
  show 0<b.all+(I0 us s.l - p.amount)
  have:=h.ok.off.pos
  omega
 ·intro k hk
  show 0≤gI (ls++X) k∧gI (ls++X) k≤(gU us (gI (b.taken++C4 s.l) k).toNat).net
  by_cases hkl:k<ls.length
  ·rw [N5 hkl,N5 (by omega)];exact h.bnd k hkl
  ·have e:∀ (a b:List Int),a.length=ls.length→gI (a++b) k=gI b (k - ls.length):=fun a b ha=>by
    unfold gI
    rw [D6D,D6D,D7a (by omega),ha]
   rw [D6P] at hk
   rw [e ls X rfl,e b.taken _ hlen.symm]
   refine ⟨a3 _ (A7 (by omega)),?_⟩
   have h9:=hle (k:=k - ls.length) (by omega)
   rw [show gI (E4 us (C4 s.l)) (k - ls.length)=(gU us (gI (C4 s.l) (k - ls.length)).toNat).net from D4 (fun i:Int=>(gU us i.toNat).net) _ (by omega)] at h9
   exact h9
 ·show ((b.taken++C4 s.l).map Int.toNat).Nodup
  rw [D7k]
  refine List.nodup_append.2 ⟨h.nd,((A1m s.l).map Int.toNat).nodup_iff.2 htr.nd,fun x hx y hy e=>?_⟩
  subst e
  obtain ⟨u,hu1,rfl⟩:=D6Z.1 hx
  obtain ⟨w,hw1,hw2⟩:=D6Z.1 hy
  have f1:=h.used u hu1
  have f2:=htr.free w (V6.1 hw1)
  rw [hw2,f1] at f2;cases f2
 ·intro x hx
  show s.used.getD x.toNat default=true
  rw [htr.used]
  rcases D7T.1 hx with hx | hx
  ·exact .inl (h.used x hx)
  ·exact .inr (D9s (V6.1 hx))
set_option maxHeartbeats 1000000 in
theorem C1M (p:B1) (us:List B2) (parts:List (List Int)) (hps:A2X p) (hright:H2 p=true) (hk:p.kind=4) (hp:A4k p) (hu:E3 us) (hl:parts.length=p.parts.length) (hm:∀ x∈parts,N7 us x) (st:St) :
  S P 219 [B7 p,C6 us,A8 1 B0 parts] st fun v st'=>v=.tuple [C6 (R5 p us parts).1,eI (R5 p us parts).2]∧st'=st:=by
 have hul:=hu.len
 have hn1:=hp.n1
 have hn8:=hp.n8
 have ha:=hp.amt
 have hme:∀ k,k<parts.length→N7 us (parts.getD k default):=fun k hk=>hm _ (A7 hk)
 have hst0:=A5X hu hl (fun k hk=>hme k hk)
 have hD:tot p.parts.length (F6 us parts).ms.es≤800000:=by
  have:=C5t (n:=p.parts.length) (B:=100000) (es:=(F6 us parts).ms.es) (fun i hi=>by
   show (E1 us (parts.getD i [])).length≤100000
   rw [A1Y]
   exact D7S (hme i (by omega)).len hul)
  have h8:p.parts.length * 100000≤8 * 100000:=D7E _ hn8
  omega
 refine A0Q ?_
 refine F4 [3] Tryz.func219 ?_
 refine Col.apps (q:=C1L) (f:=fun k=>Z4 (gU us k)) rfl rfl rfl rfl (A3F _ _ _ _) (fun i hi=>by rw [D6Q]) (by show (0+us.length) * 24≤_;omega) (Col.start _ _ _ st) (fun svS st1 hcS=>?_)
 have hsupS:=hcS.sup
 clear hcS
 conv=>whnf
 refine I2 (A7S p hps hright _) ?_
 rw [show (p.kind != 4)=false from by rw [hk];rfl];conv=>whnf
 rw [show ((parts.length:Int) != (p.parts.length:Int))=false from by rw [hl];simp];conv=>whnf
 refine lp parts.length [1,2,3,8,9,10] (fun i vs s=>∃ sv,vs=[C6 us,A8 1 B0 parts,.fptr (B7 p) 0,svS,sv,eI i]∧E6 29 1 B0 ((parts.take i).map fun m=>(E1 us m).map (·.2)) st1 sv s) ?_ ?_
 ·conv=>whnf
  exact ⟨.emp,rfl,E6.start _ _ _ _⟩
 ·rintro i vs s hi ⟨sv,rfl,hc⟩
  conv=>whnf
  cases hd:decide ((i:Int)<(parts.length:Int))
  case true =>
   have hi':=E2 hd
   have hmi:N7 us (parts.getD (i:Int).toNat default):=by rw [D6R];exact hme i hi'
   conv=>whnf
   refine E7 ?_
   refine I2 (B8Q us _ hu hmi _) ?_
   refine E7 ?_
   refine I2 (C0n us _ hu hmi _) ?_
   refine E6.app (q:=r29) (y:=(E1 us (parts.getD (i:Int).toNat default)).map (·.2)) rfl rfl rfl rfl rfl rfl (by show (_+1) * 24≤140737488355328;rw [D6J,D6N];omega) hc (fun sv' s' hc'=>?_);conv=>whnf
   refine G2 ?_
   exact nx hi' ⟨sv',by rw [B4 (by omega)],by rw [A1L hi'];exact hc'⟩
  obtain rfl:=C5 hd hi
  rw [D6O] at hc
  have hLl:(parts.map fun m=>(E1 us m).map (·.2)).length=parts.length:=D6J ..
  have hLg:∀ k,k<parts.length→(parts.map fun m=>(E1 us m).map (·.2)).getD k default=(E1 us (parts.getD k default)).map (·.2):=fun k hk=>D4 (fun m=>(E1 us m).map (·.2)) parts hk
  generalize (parts.map fun m=>(E1 us m).map (·.2))=L at *
  rcases hc with ⟨h0,_⟩ | ⟨h0,bl,gl,hbl,rfl,rfl,hgl⟩
  ·omega
  conv=>whnf
  refine mkO rfl rfl rfl (by show 1 * us.length≤_;omega) (by omega) (by rfl) (fun bu hbu=>?_)
  have hnlu:bl≠bu:=fun e=>by subst e;rw [A0] at hbu;cases hbu
  have hblS:(upd st1 bl ⟨29,1,L.length,gl⟩) bl=some ⟨29,1,L.length,gl⟩:=A0 ..
  have hsup2:F1 st (upd st1 bl ⟨29,1,L.length,gl⟩):=hsupS.upd hbl
  generalize upd st1 bl ⟨29,1,L.length,gl⟩=st2 at *
  conv=>whnf
  have hwb:∀ Y:K4,(upd st2 bu Y) bl=some ⟨29,1,L.length,gl⟩:=fun Y=>by rw [A9 hnlu];exact hblS
  refine ⟨[1,3,9,11,12,13],fun m vs s=>∃ (b:BSt) (ls:List Int) (sva svl:AV) (gu:Nat→AV) (f:Nat),m=tot p.parts.length b.ms.es∧vs=[C6 us,.fptr (B7 p) 0,.own 1 bl 0 L.length,.own 1 bu 0 us.length,sva,svl] ∧
   C5S p us (fun k=>E1 us (parts.getD k default)) (tot p.parts.length (F6 us parts).ms.es) b ls∧(tot p.parts.length b.ms.es<f∧A3q p us (tot p.parts.length (F6 us parts).ms.es+1) (F6 us parts)=A3q p us f b) ∧
   RA b.taken ls sva svl (upd st2 bu ⟨4,1,us.length,gu⟩) s∧∀ k,k<us.length→gu k=eB (b.ms.used.getD k default),?_,?_⟩
  ·conv=>whnf
   refine ⟨_,F6 us parts,[],.emp,.emp,_,_,rfl,rfl,?_,⟨D9w _,rfl⟩,RA.start _,fun k hk=>?_⟩
   ·refine ⟨hst0,fun k hk=>⟨[],rfl,fun e he=>by cases he⟩,rfl,rfl,rfl,.inl rfl,fun k hk=>absurd hk (by simp),List.nodup_nil,fun x hx=>by simp [F6] at hx⟩
   ·show eB false=eB ((List.replicate us.length false).getD k default)
    simp [D6D,hk]
  ·rintro m vs s ⟨b,ls,sva,svl,gu,f,rfl,rfl,hI,⟨hf1,hF⟩,hR,hgu⟩
   have hok0:MOk us p.parts.length ⟨b.ms.used,b.ms.es,[]⟩:=⟨hI.ok.ok.len,hI.ok.ok.rng,hI.ok.ok.srt,fun x hx=>by simp at hx⟩
   have hBA:=B9E b.taken ls sva svl
   have hsu:=hBA.sup hR
   have hsu1:=hsu bu _ (A0 ..)
   have hsl1:=hsu bl _ (hwb _)
   have hbl2:=hI.ok.len
   obtain ⟨f,rfl⟩:∃ g,f=g+1:=⟨f - 1,by omega⟩
   conv=>whnf
   refine B3 (C9h p hp us hul (fun k=>E1 us (parts.getD k default)) L (by omega) (fun k hk=>hLg k (by omega)) (fun k hk=>⟨by show (E1 _ _).length≤_;rw [A1Y];exact D7S (hme k (by omega)).len hul,fun e he=>A6S (hme k (by omega)).rng he⟩) ⟨b.ms.used,b.ms.es,[]⟩ rfl hok0 hI.pre bu gu s bl gl hsl1 hgl hsu1 hgu) ?_
   have fin:A2i p us b=none→∀ t,RA b.taken ls sva svl (upd st2 bu ⟨4,1,us.length,gu⟩) t→∃ t2,A6 [C6 us,sva,svl,eB p.closes] t [C6 us,B0 b.taken,B0 ls,eB p.closes] t2∧F1 st t2 ∧
     S P 255 [C6 us,B0 b.taken,B0 ls,eB p.closes] t2 fun v st'=>v=.tuple [C6 (R5 p us parts).1,eI (R5 p us parts).2]∧st'=t2:=fun hno t ht=>by
    obtain ⟨t2,h1,h2⟩:=ht.shift (C6 us) (eB p.closes)
    have hPl:A0a us b.taken:=B3T hI.ok.mem hI.nd
    have hout:A3q p us (tot p.parts.length (F6 us parts).ms.es+1) (F6 us parts)=b:=by
     rw [hF];unfold A3q;rw [hno]
    have h0s:∀ x∈ls,0≤x:=fun x hx=>by obtain ⟨k,hk,rfl⟩:=D5 hx;exact (hI.bnd k hk).1
    have hE:A2P us b.taken ls p.closes=R5 p us parts:=by
     unfold R5 A2P
     simp only
     rw [hout,←hI.sum,hI.out]
     by_cases hz:A2 ls=0
     ·have ht0:b.taken=[]:=by
       rcases hI.pos with e | e
       ·exact e
       ·rw [←hI.sum] at e;omega
      rw [if_pos hz,A3f (A3U h0s hz) _ (D6M _),ht0,hz]
      show (us,(0:Int))=(if p.closes=true then us else us,0)
      split<;>rfl
     ·rw [if_neg hz]
    have hsum:A2 ls≤10000000000000:=by
     have h5:=hI.ok.off.sum
     have:=hu.sum
     have:=C1 (hI.ok.off.ok hu).nets0
     rw [hI.sum];omega
    have hlen:=hI.len
    have htl:b.taken.length≤1000000:=by have:=hI.ok.len;omega
    refine ⟨t2,h1,(hsup2.upd hbu).trans h2,?_⟩
    rw [←hE]
    exact B5h us b.taken ls p.closes hu hPl htl (by omega) hI.bnd (by omega) t2
   cases hs:L6 p.parts p.parts.length ⟨b.ms.used,b.ms.es,[]⟩ with
   | none =>
    have hone:A9B p ⟨b.ms.used,b.ms.es,[]⟩=[]:=by unfold A9B;rw [hs]
    obtain ⟨t2,g1,g2,g3⟩:=fin (by unfold A2i;rw [hs]) s hR
    rw [hone];conv=>whnf
    refine I2 (A7c us [] (by simp) (fun k hk=>absurd hk (by simp)) _) ?_
    refine I2 (A9O [] (by simp) (fun x hx=>by cases hx) (by decide) _) ?_
    refine E5 g1 (B3 g3 ?_);conv=>whnf
    exact ⟨rfl,g2⟩
   | some s1 =>
    have hok:=MOk.parts hok0 (D6M _) hs
    have htr:=Y8.parts (Y8.start b.ms.used b.ms.es) hok0 (D6M _) hs
    have hlen1:=A2b hp (D6M _) hs
    have hpos:=A6m hp hs
    simp only [D7X] at hlen1 hpos
    have hone:A9B p ⟨b.ms.used,b.ms.es,[]⟩=C4 s1.l:=by unfold A9B;rw [hs]
    have hcost:A2 (E4 us (C4 s1.l))=I0 us s1.l:=A7h ((A1m s1.l).map fun i:Int=>(gU us i.toNat).net)
    have hcb:=A1q hu s1.l hok.mem
    have hSl:(C4 s1.l).length=s1.l.length:=Y0 _
    have hSr:∀ k,k<(C4 s1.l).length→0≤gI (C4 s1.l) k∧(gI (C4 s1.l) k).toNat<us.length:=fun k hk=>hok.mem _ (V6.1 (A7 hk))
    have hnl:=A5j us (C4 s1.l)
    have hn0:∀ x∈E4 us (C4 s1.l),0≤x:=fun x hx=>by obtain ⟨i,hi,rfl⟩:=D6Z.1 hx;exact hu.at0 _
    rw [hone];conv=>whnf
    refine I2 (A7c us (C4 s1.l) (by omega) hSr _) ?_
    refine B3 (A9O _ (by omega) hn0 (by rw [hcost];omega) _) ?_
    rw [hcost];conv=>whnf
    rw [show (((C4 s1.l).length:Int)==0)=false from D8t (by omega)];conv=>whnf
    refine B9 (fun hc=>?_) (fun hc=>?_)<;>rw [hc]
    ·have hc':=D6H hc
     obtain ⟨t2,g1,g2,g3⟩:=fin (by unfold A2i;rw [hs];simp only;rw [if_neg (by omega)]) s hR
     conv=>whnf
     refine E5 g1 (B3 g3 ?_);conv=>whnf
     exact ⟨rfl,g2⟩
    ·have hc':I0 us s1.l>p.amount:=by have:=D6G hc;omega
     obtain ⟨hN,hI2⟩:=hI.step hp hu hs hc'
     obtain ⟨k1,k2,k3⟩:=hI.ok.step hp hu hs hc'
     have hW:=k1.weights
     rw [←hN] at hW
     have hXl:=(T2 hW).2.1
     have hstep:A3q p us (f+1) b=A3q p us f ⟨A3w b.out (C4 s1.l) (I0 us s1.l - p.amount),s1,b.taken++C4 s1.l,b.all+(I0 us s1.l - p.amount)⟩:=by
      conv=>lhs;unfold A3q A2i
      rw [hs];simp only;rw [if_pos hc']
     have w1:IntKind.i64.wrap (I0 us s1.l - p.amount)=I0 us s1.l - p.amount:=A5 (by omega) (by omega)
     have hkl:=k2.len
     simp only at hkl k3
     rw [D6P] at hkl
     have hll:=hI.len
     conv=>whnf
     refine ⟨[],[],List.range 13,by kernel_rfl,?_⟩;conv=>whnf
     refine cqW (A7c us (C4 s1.l) (by omega) hSr _) ?_
     rw [w1]
     refine ⟨_,H8 (A7U _ (E4 us (C4 s1.l)) hW _),?_⟩
     generalize D2 (I0 us s1.l - p.amount) (E4 us (C4 s1.l))=X at *
     conv=>whnf
     refine lp (C4 s1.l).length [1,3,9,11,12,13,14,16,18] (fun i vs s=>∃ (sva svl:AV) (g:Nat→AV),vs=[C6 us,.fptr (B7 p) 0,.own 1 bl 0 L.length,.own 1 bu 0 us.length,sva,svl,B0 (C4 s1.l),B0 X,eI i] ∧
      RA (b.taken++(C4 s1.l).take i) (ls++X.take i) sva svl (upd st2 bu ⟨4,1,us.length,g⟩) s∧∀ k,k<us.length→g k=eB ((A4d b.ms.used ((C4 s1.l).take i)).getD k default)) ?_ ?_
     ·conv=>whnf
      exact ⟨sva,svl,gu,rfl,by rw [D8h,D8h,D8y,D8y];exact hR,hgu⟩
     ·clear hR hgu fin hsu hsu1 hsl1 hBA
      rintro i vs s hi ⟨sva,svl,g,rfl,hR,hg⟩
      have hBA:=B9E (b.taken++(C4 s1.l).take i) (ls++X.take i) sva svl
      conv=>whnf
      cases hd:decide ((i:Int)<((C4 s1.l).length:Int))
      ·obtain rfl:=C5 hd hi
       rw [D6O] at hR hg
       rw [D8v (show X.length≤(C4 s1.l).length by omega)] at hR;conv=>whnf
       refine G2 ?_
       refine ⟨tot p.parts.length s1.es,k3,_,_,sva,svl,g,f,rfl,rfl,hI2,⟨by show tot p.parts.length s1.es<f;omega,by rw [←hstep];exact hF⟩,hR,fun k hk=>?_⟩
       rw [hg k hk]
       congr 1
       show (A4d b.ms.used (C4 s1.l)).getD k default=s1.used.getD k default
       rw [←D8N,B8W (fun x hx=>by rw [hI.ok.ok.len];exact (hok.mem x (V6.1 hx)).2),htr.used]
       constructor
       ·rintro (h | h)
        ·exact .inl h
        ·obtain ⟨y,hy,rfl⟩:=D6Z.1 h;exact .inr (D9s (V6.1 hy))
       ·rintro (h | h)
        ·exact .inl h
        ·obtain ⟨y,hy,rfl⟩:=D6Z.1 h;exact .inr (D9s (V6.2 hy))
      ·have hi':=E2 hd
       have hr:=hSr i hi'
       have hg2:=hBA.sup hR bu _ (A0 ..)
       have tk:∀ (l:List Int),i<l.length→l.take (i+1)=l.take i++[gI l i]:=fun l h=>L0 h
       conv=>whnf
       refine E7 ?_
       refine ⟨rfl,⟨by show 0≤gI (C4 s1.l) i;omega,by show gI (C4 s1.l) i<(us.length:Int);omega⟩,?_⟩;conv=>whnf
       refine stV hg2 rfl (by show 0+(gI (C4 s1.l) i).toNat<us.length;omega) (v:=eB ((A4d b.ms.used ((C4 s1.l).take i)).getD (gI (C4 s1.l) i).toNat default)) (by show g (0+(gI (C4 s1.l) i).toNat)=_;rw [D6Q];exact hg _ hr.2) (by rfl) ?_
       have hR2:=hBA.write (y':=⟨4,1,us.length,I4 g (0+(gI (C4 s1.l) i).toNat) (eB true)⟩) hR (A0 ..)
       rw [C0] at hR2
       have hgn:∀ k,k<us.length→I4 g (0+(gI (C4 s1.l) i).toNat) (eB true) k=eB ((A4d b.ms.used ((C4 s1.l).take (i+1))).getD k default):=fun k hk=>by
        have e:A4d b.ms.used ((C4 s1.l).take (i+1))=(A4d b.ms.used ((C4 s1.l).take i)).set (gI (C4 s1.l) i).toNat true:=H6 hi' _ _
        rw [e,D6Q,A6x (by rw [B8X,hI.ok.ok.len];exact hr.2)]
        by_cases ej:k=(gI (C4 s1.l) i).toNat
        ·rw [if_pos ej,ej,A4]
        ·rw [if_neg ej,H4 ej];exact hg k hk
       conv=>whnf
       refine ⟨[4,5,6,11,12,13],[],[],.qui 0 (.qui 1 (.qui 2 (.qui 3 (.qui 7 (.qui 8 (.qui 9 (.qui 10 (.two 4 11 (.two 5 11 (.two 6 11 (.gen 11 (.gen 12 (.gen 13 (.qui 14 (.qui 15 .done))))) (.two 6 12 (.gen 12 (.gen 13 (.qui 14 (.qui 15 .done)))) (.gen 6 (.gen 13 (.qui 14 (.qui 15 .done)))))) (.two 5 12 (.two 6 12 (.gen 12 (.gen 13 (.qui 14 (.qui 15 .done)))) (.gen 6 (.gen 13 (.qui 14 (.qui 15 .done))))) (.gen 5 (.gen 6 (.gen 13 (.qui 14 (.qui 15 .done))))))) (.two 4 12 (.two 5 12 (.two 6 12 (.gen 12 (.gen 13 (.qui 14 (.qui 15 .done)))) (.gen 6 (.gen 13 (.qui 14 (.qui 15 .done))))) (.gen 5 (.gen 6 (.gen 13 (.qui 14 (.qui 15 .done)))))) (.gen 4 (.gen 5 (.gen 6 (.gen 13 (.qui 14 (.qui 15 .done))))))))))))))),by kernel_rfl,?_⟩;conv=>whnf
       refine E7 ?_
       refine E7 ?_
       repeat' (refine And.intro ?_ ?_<;>(conv=>whnf))
       all_goals refine RA.appA (all:=b.taken++(C4 s1.l).take i) (ls:=ls++X.take i) (y:=gI (C4 s1.l) i) hR2 rfl rfl (by rw [D6P,D6N];omega) (fun sva' t' hR3=>?_)
       all_goals (conv=>whnf)
       all_goals refine RA.appL (all:=b.taken++(C4 s1.l).take i++[gI (C4 s1.l) i]) (ls:=ls++X.take i) (y:=gI X i) hR3 rfl rfl (by rw [D6P,D6N];omega) (fun svl' t'' hR4=>?_)
       all_goals (conv=>whnf)
       all_goals refine ⟨rfl,?_⟩
       all_goals (conv=>whnf)
       all_goals exact nx hi' ⟨sva',svl',I4 g (0+(gI (C4 s1.l) i).toNat) (eB true),by rw [B4 (by omega)],by rw [tk _ hi',tk _ (by omega),←D8e,←D8e];exact hR4,hgn⟩
def A0I (l:List Int):List Int:=l.foldl (fun a x=>if x∈a then a else a++[x]) []
theorem B8C (l:List Int) (x:Int):A0I (l++[x])=if x∈A0I l then A0I l else A0I l++[x]:=by
 unfold A0I;rw [D8H];rfl
theorem B1N (l:List Int):(A0I l).Nodup∧∀ x,x∈A0I l↔x∈l:=by
 have:∀ (l a:List Int),a.Nodup→(l.foldl (fun a x=>if x∈a then a else a++[x]) a).Nodup∧∀ x,x∈l.foldl (fun a x=>if x∈a then a else a++[x]) a↔x∈a∨x∈l:=by
  intro l
  induction l with
  | nil=>intro a h;exact ⟨h,fun x=>by simp⟩
  | cons y l ih =>
   intro a h
   rw [D7U]
   split
   ·rename_i hy
    obtain ⟨h1,h2⟩:=ih a h
    refine ⟨h1,fun x=>?_⟩
    rw [h2,D8f]
    constructor
    ·rintro (h3 | h3)
     ·exact .inl h3
     ·exact .inr (.inr h3)
    ·rintro (h3 | rfl | h3)
     ·exact .inl h3
     ·exact .inl hy
     ·exact .inr h3
   ·rename_i hy
    obtain ⟨h1,h2⟩:=ih (a++[y]) (List.nodup_append.2 ⟨h,by simp,fun p hp q hq e=>by rw [D7i] at hq;subst hq;subst e;exact hy hp⟩)
    refine ⟨h1,fun x=>?_⟩
    rw [h2,D7T,D7i,D8f,or_assoc]
 obtain ⟨h1,h2⟩:=this l [] List.nodup_nil
 exact ⟨h1,fun x=>by rw [show x∈A0I l↔x∈([]:List Int)∨x∈l from h2 x];simp⟩
theorem B5Y (l:List Int):Y3 l=((List.range l.length).filter fun k=>k==0||gI l k != gI l (k - 1)).map (gI l):=by
 unfold Y3 Go.Lib.compactUpTo
 have hg:∀ k,k<l.length→l.toArray[k]! = gI l k:=fun k hk=>by rw [getElem!_pos _ k (by simpa using hk)];simp [gI,hk]
 have hf:(List.range l.length).filter (Go.Lib.keeps l.toArray)=(List.range l.length).filter fun k=>k==0||gI l k != gI l (k - 1):=by
  refine List.filter_congr fun k hk=>?_
  have:=D6T.1 hk
  unfold Go.Lib.keeps
  rw [hg k this,hg (k - 1) (by omega)]
  rw [←D8N,D6F,D7J,D7B,D9p]
 rw [hf]
 exact D7V fun k hk=>hg k (D6T.1 (D7F.1 hk).1)
theorem B7U {l:List Int} (hs:l.Pairwise (·≤·)):(Y3 l).Nodup∧∀ x,x∈Y3 l↔x∈l:=by
 refine ⟨?_,fun x=>⟨B3z,fun hx=>?_⟩⟩
 ·rw [B5Y]
  refine List.Pairwise.map _ (fun a b h=>h) ?_ 
  refine List.Pairwise.imp_of_mem (R:=(·<·)) ?_ ((List.pairwise_lt_range (n:=l.length)).filter _)
  intro a b ha hb hab
  obtain ⟨h1,h2⟩:=D7F.1 hb
  have h3:=D6T.1 h1
  rw [D7J,D7B,D9p] at h2
  have h4:gI l (b - 1)≤gI l b:=B3W hs (by omega) h3
  have h5:gI l a≤gI l (b - 1):=by
   rcases D9G (show a≤b - 1 by omega) with e | e
   ·rw [e];exact D7l _
   ·exact B3W hs e (by omega)
  show gI l a≠gI l b
  rcases h2 with h2 | h2<;>omega
 ·rw [B5Y,D6Z]
  obtain ⟨k,hk,rfl⟩:=D5 hx
  induction k with
  | zero=>exact ⟨0,D7F.2 ⟨D6T.2 hk,rfl⟩,rfl⟩
  | succ k ih =>
   by_cases e:gI l (k+1)=gI l k
   ·have:=ih (by omega) (by rw [show l.getD k default=l.getD (k+1) default from e.symm];exact hx)
    obtain ⟨j,h1,h2⟩:=this
    exact ⟨j,h1,h2.trans e.symm⟩
   ·exact ⟨k+1,D7F.2 ⟨D6T.2 hk,by rw [D7J,D9p];exact .inr e⟩,rfl⟩
theorem C4b (us:List B2) (l:List Int):A1P us (Y3 (C4 l))=A1P us (A0I l):=by
 obtain ⟨h1,h2⟩:=B7U (B7m l)
 obtain ⟨h3,h4⟩:=B1N l
 have hp:(Y3 (C4 l)).Perm (A0I l):=(List.perm_ext_iff_of_nodup h1 h3).2 fun x=>by rw [h2,h4,V6]
 exact A7h (hp.map _)
theorem C1x (l:List Int):(A0I l).length≤l.length:=by
 have:∀ (l a:List Int),(l.foldl (fun a x=>if x∈a then a else a++[x]) a).length≤a.length+l.length:=by
  intro l
  induction l with
  | nil=>intro a;simp
  | cons y l ih =>
   intro a
   rw [D7U]
   split
   ·have:=ih a;rw [D7o];omega
   ·have:=ih (a++[y]);rw [D6P,D7o,D7X] at this;rw [D7o];omega
 have h:=this l []
 rw [D7X,D6Q] at h;exact h
structure PSm (p:B1):Prop where
 sm:A2X p
 right:H2 p=true
 fit:Q7 p
set_option maxHeartbeats 400000 in
theorem C9g (items:List Ab.Item) (us:List B2) (pr:B1) (hp:PSm pr) (hk:pr.kind≠7) (hu:A7m items us) (st:St) :
  S P 164 [B7 pr,C6 us,A8 4 E9 items] st fun v st'=>(∃ x,v=.tuple [C6 x,eI (A0h items us pr).2]∧(0<(A0h items us pr).2→x=(A0h items us pr).1))∧st'=st:=by
 have ok:=A3R hp.right
 have hul:=hu.ok.len
 have hB:=ok.bun
 by_cases h4:pr.kind=4
 ·have hW:A0h items us pr=A0Z items us pr:=by unfold A0h;rw [if_pos h4]
  rw [hW]
  obtain ⟨hbn,hbs⟩:=hB h4
  have hn8:=hbn.n8
  have hpl:(Q9 items us pr).length=pr.parts.length:=D6J ..
  have hbP:A0Z items us pr=if A1P us (A0I (A0v items us pr pr.parts.length))<pr.least then ([],0) else R5 pr us (Q9 items us pr):=by unfold A0Z;rw [C4b]
  refine A0Q ?_
  refine F4 [3] Tryz.func164 ?_
  rw [show (pr.kind != 4)=false from by rw [h4];rfl];conv=>whnf
  refine mkO rfl rfl rfl (by show 1 * us.length≤_;omega) (by omega) (by rfl) (fun bs hbs0=>?_);conv=>whnf
  refine lp pr.parts.length [1,2,3,9,10,11,12] (fun i vs s=>∃ sv g,vs=[C6 us,A8 4 E9 items,.fptr (B7 pr) 0,sv,.own 1 bs 0 us.length,eI (A1P us (A0I (A0v items us pr i))),eI i]∧E6 29 1 B0 ((Q9 items us pr).take i) (upd st bs ⟨4,1,us.length,g⟩) sv s∧∀ k,k<us.length→g k=eB (decide ((k:Int)∈A0v items us pr i))) ?_ ?_
  ·conv=>whnf
   exact ⟨.emp,_,rfl,E6.start _ _ _ _,fun k hk=>by rw [show A0v items us pr 0=[] from rfl];simp;rfl⟩
  ·rintro i vs s hi ⟨sv,g,rfl,hc,hg⟩
   conv=>whnf
   cases hd:decide ((i:Int)<(pr.parts.length:Int))
   ·obtain rfl:=C5 hd hi
    rw [←hpl,D6O] at hc;conv=>whnf
    refine B9 (fun h1=>?_) (fun h1=>?_)<;>rw [h1]
    ·have:=D6H h1
     rw [if_pos (by omega)] at hbP;conv=>whnf
     exact ⟨⟨us,by rw [hbP];rfl,fun h=>by rw [hbP] at h;exact absurd h (by decide)⟩,((F1.refl st).upd hbs0).trans hc.sup⟩
    ·have:=D6G h1
     rw [if_neg (by omega)] at hbP;conv=>whnf
     refine E5 (A6.cons (t:=s) (A6.keep _ _) (A6.cons (t:=s) (A6.keep _ _) hc.shift)) (B3 (C1M pr us (Q9 items us pr) hp.sm hp.right h4 hbn hu.ok hpl (fun x hx=>by obtain ⟨q,_,rfl⟩:=D6Z.1 hx;exact A1E _ _ _) _) ?_);conv=>whnf
     exact ⟨⟨_,by rw [hbP];rfl,fun _=>by rw [hbP]⟩,(F1.refl st).upd hbs0⟩
   ·have hi':=E2 hd
    have hsc:(pr.parts.getD (i:Int).toNat default).scope.skus.length≤20∧(pr.parts.getD (i:Int).toNat default).scope.cats.length≤20:=hbs _ (A7 hi')
    have hsu:=A9j items us pr hi'
    have hAl:=B1b items us pr i hi
    have hAm:=fun {x} (hx:x∈A0v items us pr i)=>B1c hx
    have hml:=A3i (pr.parts.getD (i:Int).toNat default).scope items us us.length
    have hmo:=A1E (pr.parts.getD (i:Int).toNat default).scope items us
    have hpt:(Q9 items us pr).take (i+1)=(Q9 items us pr).take i++[K0 (pr.parts.getD (i:Int).toNat default).scope items us us.length]:=by
     rw [L0 (by omega)];congr 2
     exact D4 (fun x:A2q=>K0 x.scope items us us.length) pr.parts hi'
    rw [show K0 (pr.parts.getD i default).scope items us us.length=K0 (pr.parts.getD (i:Int).toNat default).scope items us us.length from rfl] at hsu
    have h8:i * us.length≤7 * 100000:=Nat.mul_le_mul (by omega) hul
    conv=>whnf
    refine E7 ?_
    refine B3 (C0o us items (pr.parts.getD (i:Int).toNat default).scope (by omega) (by omega) hul hu.line _) ?_
    generalize K0 (pr.parts.getD (i:Int).toNat default).scope items us us.length=m at *
    conv=>whnf
    refine E6.app (q:=r29) (y:=m) rfl rfl rfl rfl rfl rfl (by show (_+1) * 24≤140737488355328;rw [D6N];omega) hc (fun sv s hc=>?_)
    rw [←hpt] at hc;conv=>whnf
    refine lp m.length [1,2,3,9,10,11,12,13,14] (fun k vs s=>∃ g,vs=[C6 us,A8 4 E9 items,.fptr (B7 pr) 0,sv,.own 1 bs 0 us.length,eI (A1P us (A0I (A0v items us pr i++m.take k))),eI i,B0 m,eI k]∧E6 29 1 B0 ((Q9 items us pr).take (i+1)) (upd st bs ⟨4,1,us.length,g⟩) sv s∧∀ j,j<us.length→g j=eB (decide ((j:Int)∈A0v items us pr i++m.take k))) ?_ ?_
    ·conv=>whnf
     exact ⟨g,by rw [D8h,D8y];rfl,hc,by rw [D8h,D8y];exact hg⟩
    ·clear hc hg
     rintro k vs s hk ⟨g,rfl,hc,hg⟩
     conv=>whnf
     cases hd2:decide ((k:Int)<(m.length:Int))
     ·obtain rfl:=C5 hd2 hk
      rw [D6O,←hsu] at hg;conv=>whnf
      refine G2 ?_
      exact nx hi' ⟨sv,g,by rw [B4 (by omega),D6O,←hsu],hc,hg⟩
     ·have hk':=E2 hd2
      have hr:0≤m.getD (k:Int).toNat default∧(m.getD (k:Int).toNat default).toNat<us.length:=hmo.rng k hk'
      have hbk:=hc.sup bs _ (A0 ..)
      have hP:A0v items us pr i++m.take (k+1)=(A0v items us pr i++m.take k)++[m.getD (k:Int).toNat default]:=by rw [L0 hk',D8e];rfl
      have hgk:g (0+(m.getD (k:Int).toNat default).toNat)=eB (decide (m.getD (k:Int).toNat default∈A0v items us pr i++m.take k)):=by
       rw [D6Q,hg _ hr.2];congr 2;rw [D8u hr.1]
      have hmem:∀ x∈A0v items us pr i++m.take k,0≤x∧x.toNat<us.length:=fun x hx=>by
       rcases D7T.1 hx with hx | hx
       ·exact B1c hx
       ·obtain ⟨j,hj,rfl⟩:=D5 (D7G _ _ hx);exact hmo.rng j hj
      obtain ⟨o1,o2⟩:=B1N (A0v items us pr i++m.take k)
      have hcb:=A1q hu.ok (A0I (A0v items us pr i++m.take k)) (fun x hx=>hmem x ((o2 x).1 hx))
      have hol:=C1x (A0v items us pr i++m.take k)
      rw [D6P,D6N] at hol
      have hcl:A1P us (A0I (A0v items us pr i++m.take k))=I0 us (A0I (A0v items us pr i++m.take k)):=rfl
      have hsn:=B8C (A0v items us pr i++m.take k) (m.getD (k:Int).toNat default)
      have hdm:decide (m.getD (k:Int).toNat default∈A0I (A0v items us pr i++m.take k))=decide (m.getD (k:Int).toNat default∈A0v items us pr i++m.take k):=D8s.2 (o2 _)
      have hn0:0≤(gU us (m.getD (k:Int).toNat default).toNat).net:=hu.ok.at0 _
      have hn1:(gU us (m.getD (k:Int).toNat default).toNat).net≤10000000000000:=hu.ok.le (A7 hr.2)
      generalize A0v items us pr i++m.take k=A at *
      conv=>whnf
      refine E7 ?_
      refine E7 ?_
      refine J6 hbk hgk ?_
      refine B9 (fun h5=>?_) (fun h5=>?_)<;>rw [h5]
      ·have hnot:¬ m.getD (k:Int).toNat default∈A:=by simpa using h5
       rw [if_neg (fun h=>hnot ((o2 _).1 h))] at hsn
       have hadd:A1P us (A0I (A++[m.getD (k:Int).toNat default]))=A1P us (A0I A)+(gU us (m.getD (k:Int).toNat default).toNat).net:=by
        rw [hsn];exact B3B us _ _
       have w:IntKind.i64.wrap (A1P us (A0I A)+(gU us (m.getD (k:Int).toNat default).toNat).net)=A1P us (A0I (A++[m.getD (k:Int).toNat default])):=by rw [hadd];exact A5 (by omega) (by omega)
       conv=>whnf
       refine E7 ?_
       refine E7 ?_
       refine stU hbk hgk ?_
       have hc2:=Col.write hc (y':=⟨4,1,us.length,I4 g (0+(m.getD (k:Int).toNat default).toNat) (eB true)⟩) (A0 ..)
       rw [C0] at hc2;conv=>whnf
       refine E7 ?_
       refine E7 ?_
       refine G2 ?_
       refine nx hk' ⟨I4 g (0+(m.getD (k:Int).toNat default).toNat) (eB true),by rw [B4 (by omega),hP,←w],hc2,fun j hj=>?_⟩
       rw [hP,D6Q]
       by_cases ej:j=(m.getD (k:Int).toNat default).toNat
       ·rw [ej,A4,D7m (by rw [D7T,D7i];right;omega)]
       ·rw [H4 ej,hg j hj]
        congr 1
        refine D8s.2 ?_
        rw [D7T,D7i]
        exact ⟨.inl,fun h=>h.resolve_right (by omega)⟩
      ·have hin:m.getD (k:Int).toNat default∈A:=by simpa using h5
       rw [if_pos ((o2 _).2 hin)] at hsn;conv=>whnf
       refine G2 ?_
       refine nx hk' ⟨g,by rw [B4 (by omega),hP,hsn],hc,fun j hj=>?_⟩
       rw [hP,hg j hj]
       congr 1
       refine D8s.2 ?_
       rw [D7T,D7i]
       exact ⟨.inl,fun h=>h.elim id (fun e=>by rw [e];exact hin)⟩
 ·have hW:A0h items us pr=A2n items us pr:=by unfold A0h;rw [if_neg h4]
  have hmo:=A1E pr.scope items us
  have hml:=A3i pr.scope items us us.length
  have hS:A2n items us pr=if A1P us (K0 pr.scope items us us.length)<pr.least then ([],0) else if pr.kind=3 then W9 pr us (K0 pr.scope items us us.length) else A0b pr us (K0 pr.scope items us us.length):=rfl
  obtain ⟨hn0,hns⟩:=B1L hu.ok hmo
  rw [hW]
  refine F4 [3] Tryz.func164 ?_
  rw [show (pr.kind != 4)=true from D9p.2 h4];conv=>whnf
  refine B3 (C0o us items pr.scope (by have:=ok.skus;omega) (by have:=ok.cats;omega) hul hu.line _) ?_
  generalize K0 pr.scope items us us.length=m at *
  conv=>whnf
  refine ⟨[],[],List.range 7,by kernel_rfl,?_⟩;conv=>whnf
  refine cqW (A7c us m (by omega) hmo.rng _) ?_
  refine cqW (A9O (E4 us m) (by rw [A5j];omega) hn0 (by omega) _) ?_
  refine B9 (fun h1=>?_) (fun h1=>?_)<;>rw [h1]
  ·have h2:A1P us m<pr.least:=D6H h1
   rw [if_pos h2] at hS;conv=>whnf
   exact ⟨⟨us,by rw [hS];rfl,fun h=>by rw [hS] at h;exact absurd h (by decide)⟩,rfl⟩
  ·have h2:¬ A1P us m<pr.least:=fun h=>absurd h (Int.not_lt.2 (Int.not_lt.1 (D6G h1)))
   rw [if_neg h2] at hS;conv=>whnf
   by_cases h3:pr.kind=3
   ·rw [if_pos h3] at hS
    rw [show (pr.kind==3)=true from D7B.2 h3];conv=>whnf
    refine I2 (C1N pr us m hp.sm hp.right h3 (ok.buy h3) hu.ok hmo _) ?_
    exact ⟨⟨_,by rw [hS];rfl,fun _=>by rw [hS]⟩,rfl⟩
   ·rw [if_neg h3] at hS
    rw [show (pr.kind==3)=false from D8t h3];conv=>whnf
    refine I2 (C4C pr us m (ok.ask hp.fit (by have:=ok.kind;omega)) hp.sm hu.ok hmo _) ?_
    exact ⟨⟨_,by rw [hS];rfl,fun _=>by rw [hS]⟩,rfl⟩
theorem B7c (L:List C8) (g:C8) (hl:L.length≤1000) (sv:AV) (st:St) (h:(sv=.emp∧L=[])∨∃ b f,sv=.own 1 b 0 L.length∧st b=some ⟨9,1,L.length,f⟩∧∀ k,k<L.length→f k=eS (L.getD k default)) :
  S P 163 [sv,eS g] st fun v st'=>v=.bool (!N2 g&&L.any fun y=>y.toList==g.toList)∧st'=st:=by
 rcases h with ⟨rfl,rfl⟩ | ⟨b,f,rfl,hb,hf⟩
 ·refine F4 [] Tryz.func163 ?_
  refine B1M [0,1,5] ?_;conv=>whnf
  intro I;conv=>whnf
  exact ⟨by simp [B0w],rfl⟩
 ·refine F4 [] Tryz.func163 ?_
  refine lp L.length [0,1,5] (fun i vs s=>(∀ k,k<i→(!N2 g&&((L.getD k default).toList==g.toList))=false)∧vs=[.own 1 b 0 L.length,eS g,eI i]∧s=st) ?_ ?_
  ·conv=>whnf
   exact ⟨fun k hk=>absurd hk (by omega),rfl,rfl⟩
  ·rintro i vs st' hi ⟨hok,rfl,rfl⟩
   conv=>whnf
   cases hd:decide ((i:Int)<(L.length:Int))
   ·obtain rfl:=C5 hd hi
    conv=>whnf
    refine ⟨?_,rfl⟩
    have e:(!N2 g&&L.any fun y=>y.toList==g.toList)=false:=by
     cases hn:N2 g
     ·rw [D7j,D6Y]
      refine D7R.2 fun x hx=>?_
      obtain ⟨k,hk,rfl⟩:=D5 hx
      have:=hok k hk
      rw [hn,D7j,D6Y] at this
      rw [this];simp
     ·rfl
    rw [e];rfl
   ·have hi':=E2 hd
    have hfi:f (0+(i:Int).toNat)=eS (L.getD (i:Int).toNat default):=by rw [D6Q];exact hf _ (by omega)
    have yes:=fun h=>H5 hok (i:=i) h
    have nl:N2 g=(g.toList==(⟨#[]⟩:C8).toList):=rfl
    conv=>whnf
    refine B9 (fun h1=>?_) (fun h1=>?_)<;>rw [h1]
    ·have hn:N2 g=false:=by rw [nl];simpa using h1
     conv=>whnf
     refine E7 ?_
     refine J6 hb hfi ?_
     refine B9 (fun h2=>?_) (fun h2=>?_)<;>rw [h2]
     ·conv=>whnf
      refine ⟨?_,rfl⟩
      rw [hn,D8r.2 ⟨_,A7 hi',h2⟩];rfl
     ·conv=>whnf
      refine G2 ?_
      exact nx hi' ⟨yes (by rw [hn];exact h2),by rw [B4 (by omega)],rfl⟩
    ·have hn:N2 g=true:=by rw [nl];simpa using h1
     conv=>whnf
     refine G2 ?_
     exact nx hi' ⟨yes (by rw [hn];rfl),by rw [B4 (by omega)],rfl⟩
structure B5K (l:List B1):Prop where
 few:l.length≤60
 right:∀ p∈l,H2 p=true
 ids:∀ i j,i<j→j<l.length→((l.getD i default).id.toList==(l.getD j default).id.toList)=false
theorem B2b {l:List B1} (h:promosC l=true):B5K l:=by
 unfold promosC L3 at h
 simp only [D6I,D6F,D6W,D6T] at h
 obtain ⟨h1,h2⟩:=h
 refine ⟨by omega,fun p hp=>?_,fun i j hij hj=>?_⟩
 ·obtain ⟨k,hk,rfl⟩:=D5 hp
  have:=h2 k hk
  unfold X0 at this
  rw [D6I] at this;exact this.1
 ·have:=h2 j hj
  unfold X0 at this
  rw [D6I,D6X,D7R] at this
  have h3:=this.2 (l.getD i default) (by
   have:(l.take j).getD i default=l.getD i default:=by rw [D6D,D6D,D6S hij]
   rw [←this]
   exact A7 (by rw [D6N];omega))
  simpa using h3
theorem B2a {l:List B1} {i:Nat} (hi:i<l.length) (h:X0 l i (l.getD i default)=false):promosC l=false:=by
 unfold promosC
 rw [D8M]
 refine .inr (D8x.2 fun ha=>?_)
 unfold L3 at ha
 rw [D6W] at ha
 have:=ha i (D6T.2 hi)
 rw [this] at h;cases h
theorem C1O (l:List B1) (hn:l.length<9223372036854775807) (hs:∀ p∈l,A2X p) (st:St):S P 134 [A8 15 B7 l] st fun v st'=>v=.bool (promosC l)∧st'=st:=by
 refine F4 [] Tryz.func134 ?_
 refine lp l.length [0,3] (fun i vs st'=>vs=[A8 15 B7 l,eI i]∧st'=st∧∀ k,k<i→X0 l k (l.getD k default)=true) ?_ ?_
 ·conv=>whnf
  exact ⟨rfl,rfl,fun k hk=>absurd hk (by omega)⟩
 ·rintro i vs st' hi ⟨rfl,rfl,hok⟩
  conv=>whnf
  cases h:decide ((i:Int)<(l.length:Int))
  ·obtain rfl:=C5 h hi
   conv=>whnf
   refine ⟨?_,rfl⟩
   show AV.bool _=AV.bool _
   unfold promosC
   rw [K8 hok,D7u]
  ·have hi':=E2 h
   have hm:l.getD (i:Int).toNat default∈l:=A7 hi'
   conv=>whnf
   refine E7 ?_
   refine B3 (B6U (l.getD (i:Int).toNat default) (hs _ hm) _) ?_
   obtain ⟨b,hb⟩:∃ b,b=H2 (l.getD (i:Int).toNat default):=⟨_,rfl⟩
   rw [←hb];conv=>whnf
   refine B9 (fun h1=>?_) (fun h1=>?_)<;>rw [h1]
   ·conv=>whnf
    refine ⟨?_,rfl⟩
    have:promosC l=false:=B2a hi' (by
     unfold X0
     rw [show H2 (l.getD i default)=false by rw [show i=(i:Int).toNat from rfl,←hb];simpa using h1];rfl)
    rw [this];rfl
   have hp:H2 (l.getD i default)=true:=by rw [show i=(i:Int).toNat from rfl,←hb];simpa using h1
   conv=>whnf
   refine lp i [0,3,4] (fun j vs s=>vs=[A8 15 B7 l,eI i,eI j]∧s=st'∧∀ k,k<j→((l.getD k default).id.toList==(l.getD i default).id.toList)=false) ?_ ?_
   ·conv=>whnf
    exact ⟨rfl,rfl,fun k hk=>absurd hk (by omega)⟩
   ·rintro j vs s hj ⟨rfl,rfl,hne⟩
    conv=>whnf
    cases h2:decide ((j:Int)<(i:Int))
    ·obtain rfl:=C5 h2 hj
     conv=>whnf
     refine G2 ?_
     refine nx hi' ⟨by rw [B4 (by omega)],rfl,fun k hk=>?_⟩
     by_cases e:k<j
     ·exact hok k e
     ·obtain rfl:k=j:=by omega
      unfold X0
      rw [hp,D6Y,D6X,D7R]
      intro x hx
      obtain ⟨m,hm',rfl⟩:=D5 hx
      rw [D6N] at hm'
      have e2:(l.take k).getD m default=l.getD m default:=by rw [D6D,D6D,D6S (by omega)]
      rw [e2,hne m (by omega)];exact Bool.false_ne_true
    ·have hj':=E2 h2
     conv=>whnf
     refine ⟨[],[],List.range 11,by kernel_rfl,?_⟩;conv=>whnf
     refine E7 ?_
     refine E7 ?_
     refine B9 (fun h3=>?_) (fun h3=>?_)<;>rw [h3]
     ·conv=>whnf
      refine ⟨?_,rfl⟩
      have h4:((l.getD j default).id.toList==(l.getD i default).id.toList)=true:=h3
      have:promosC l=false:=B2a hi' (by
       unfold X0
       rw [hp,D6Y,D7q]
       refine D8r.2 ⟨l.getD j default,?_,h4⟩
       have e2:(l.take i).getD j default=l.getD j default:=by rw [D6D,D6D,D6S (by omega)]
       rw [←e2]
       exact A7 (by rw [D6N];omega))
      rw [this];rfl
     have h4:((l.getD j default).id.toList==(l.getD i default).id.toList)=false:=h3
     conv=>whnf
     refine G2 ?_
     exact nx hj' ⟨by rw [B4 (by omega)],rfl,fun k hk=>by
      by_cases e:k<j
      ·exact hne k e
      ·obtain rfl:k=j:=by omega
       exact h4⟩
structure A6M (r:D6):Prop where
 n:Sm r.items.length
 items:∀ x∈r.items,Sm x.sku.size∧Sm x.cat.size
 promos:∀ p∈r.promos,A2X p
 tax:B3q r.tax
 order:Sm r.policy.order.length
 credit:Sm r.policy.credit.length
theorem C4H (r:D6) (hn:r.promos.length<9223372036854775807) (hs:A6M r) (st:St):S P 81 [F7 r] st fun v st'=>v=.bool (K6 r)∧st'=st:=by
 obtain ⟨H,hH⟩:∃ H:Bool,H=K6 r:=⟨_,rfl⟩
 rw [←hH]
 unfold K6 B0i A2l at hH
 have n1:=C4E r.items hs.n hs.items st
 have n2:=C1O r.promos hn hs.promos st
 have n3:=C4I r.tax hs.tax st
 have n4:=A2R r.ship.fee 1000000000 st
 have n5:=A2R r.ship.free 10000000000000 st
 have n6:=A2R r.policy.window 100000 st
 have n7:=A2R r.policy.grace 100000 st
 have n8:=A2R r.policy.restock 10000 st
 have n9:=B7a r.policy.order hs.order st
 have n10:=B7a r.policy.credit hs.credit st
 generalize A1C r.items=b1 at *
 generalize promosC r.promos=b2 at *
 generalize taxC r.tax=b3 at *
 generalize N9 0 1000000000 r.ship.fee=b4 at *
 generalize N9 0 10000000000000 r.ship.free=b5 at *
 generalize N9 0 100000 r.policy.window=b6 at *
 generalize N9 0 100000 r.policy.grace=b7 at *
 generalize N9 0 10000 r.policy.restock=b8 at *
 generalize A1h r.policy.order=b9 at *
 generalize A1h r.policy.credit=b10 at *
 refine SyW [1,3] Tryz.func81 ?_
 repeat' ((conv=>whnf);first | refine B3 n1 ?_ | refine B3 n2 ?_ | refine B3 n3 ?_ | refine B3 n4 ?_ | refine B3 n5 ?_ | refine B3 n6 ?_ | refine B3 n7 ?_ | refine B3 n8 ?_ | refine B3 n9 ?_ | refine B3 n10 ?_ | (refine B9 (fun h=>?_) (fun h=>?_)<;>rw [h]))
 all_goals (conv=>whnf)
 all_goals (refine ⟨?_,rfl⟩;show AV.bool _=AV.bool _;congr 1;clear n1 n2 n3 n4 n5 n6 n7 n8 n9 n10)
 all_goals (simp only [*,D6Y,D7c,D7u,D7h,D7v,D7w,D7z,D7r,D7s,D7j,D7Y])
theorem B2j (r:D6) (hs:A6M r) (hC:K6 r=true) (st:St):S P 81 [F7 r] st fun v st'=>v=.bool true∧st'=st:=by
 have h:=C4H r (by
  unfold K6 at hC
  simp only [D6I] at hC
  have:=(B2b hC.1.1.1.2).few;omega) hs st
 rw [hC] at h;exact h
theorem B6R (l:List C8) (hl:Sm l.length) (hs:∀ s∈l,Sm s.size) (st:St):S P 75 [C7 l] st fun v st'=>v=.bool (S6 l)∧st'=st:=by
 have e:S6 l=(A0P l&&decide ((l.length:Int)≤4)):=by
  unfold S6 A0P
  generalize decide ((l.length:Int)≤4)=a
  generalize A0p l=b
  generalize (l.any fun s=>!D1 s)=c
  cases a<;>cases b<;>cases c<;>rfl
 rw [e]
 refine F4 [] Tryz.func75 ?_
 refine I2 (B2q l 4 hl hs st) ?_
 exact ⟨rfl,rfl⟩
def V9 (l:List B1) (codes:List C8):List Int:=(places l codes l.length).mergeSort fun x y=>!A0N (F2 l y) (F2 l x)
theorem A4z (l:List B1) (codes:List C8):(V9 l codes).Perm (places l codes l.length):=D9r ..
theorem C4l (l:List B1) (codes:List C8):(V9 l codes).Pairwise (A4l l):=by
 have:=D8W (le:=fun x y:Int=>!A0N (F2 l y) (F2 l x)) (fun a b c h1 h2=>by simp only [D6X] at *;exact A8D h1 h2) (fun a b=>by
  cases h:A0N (F2 l b) (F2 l a) with
  | false=>rfl
  | true=>rw [A9U h];rfl) (places l codes l.length)
 exact this.imp (fun h=>by simpa [A4l] using h)
theorem B8M {l:List B1} (ok:B5K l) {x y:Int} (hx:0≤x∧x.toNat<l.length) (hy:0≤y∧y.toNat<l.length) (h1:A4l l x y) (h2:A4l l y x):x=y:=by
 unfold A4l at h1 h2
 rw [←D7K,A3o] at h1 h2
 have e:(F2 l x).prio=(F2 l y).prio:=by
  have a:¬(F2 l y).prio>(F2 l x).prio:=fun h=>h1 (.inl h)
  have b:¬(F2 l x).prio>(F2 l y).prio:=fun h=>h2 (.inl h)
  omega
 have a:slt (F2 l y).id (F2 l x).id=false:=by rw [←D7K];exact fun h=>h1 (.inr ⟨e.symm,h⟩)
 have b:slt (F2 l x).id (F2 l y).id=false:=by rw [←D7K];exact fun h=>h2 (.inr ⟨e,h⟩)
 have c:=A7f a b
 rcases Nat.lt_trichotomy x.toNat y.toNat with h | h | h
 ·have:=ok.ids _ _ h hy.2
  rw [D7p] at this
  exact absurd c.symm this
 ·omega
 ·have:=ok.ids _ _ h hx.2
  rw [D7p] at this
  exact absurd c this
theorem B6w {l:List B1} (hC:promosC l=true) {codes:List C8} {o:List Int} (h1:o.Perm (places l codes l.length)) (h2:o.Pairwise (A4l l)):o=V9 l codes:=by
 refine (h1.trans (A4z l codes).symm).eq_of_pairwise (le:=A4l l) (fun a b ha hb h3 h4=>?_) h2 (C4l l codes)
 exact B8M (B2b hC) (A0E (h1.mem_iff.1 ha)) (A0E ((A4z l codes).mem_iff.1 hb)) h3 h4
theorem C1W (l:List B1) (codes:List C8) (hC:promosC l=true) (hc:Sm codes.length) (st:St):S P 162 [A8 15 B7 l,C7 codes] st fun v st'=>v=B0 (V9 l codes)∧st'=st :=
 (C4N l codes (by have:=(B2b hC).few;omega) hc st).mono fun v st' ⟨⟨o,h1,h2,h3⟩,h4⟩=>⟨by rw [h3,B6w hC h1 h2],h4⟩
theorem B6Z {l:List B1} (hC:promosC l=true) {codes:List C8} {o:List Int} (ho:B0t l codes o):P0 l o=V9 l codes:=by
 refine B6w hC ((A9N l o).trans ho.1) ?_
 refine List.Pairwise.map _ (fun a b h=>h) (R:=fun a b:QE=>A4l l (gI o a.2.toNat) (gI o b.2.toNat)) ?_
 refine (A7v l o).imp_of_mem fun {a b} ha hb h=>?_
 have h1:=A5o ha
 have h2:=A5o hb
 obtain ⟨i,hi,rfl⟩:=D6Z.1 ((A1t l o).mem_iff.1 ha)
 obtain ⟨j,hj,rfl⟩:=D6Z.1 ((A1t l o).mem_iff.1 hb)
 rw [S4] at h
 simp only [B2k,D6R] at h h1 h2 ⊢
 unfold A4l
 rw [←D7K,A3o]
 rintro (h3 | ⟨h3,h4⟩)
 ·exact h (.inl h3)
 ·rcases Nat.lt_trichotomy i j with e | e | e
  ·have:=ho.2 i j (D7e _) e h2.2
   unfold C6x at this
   rw [this] at h4;cases h4
  ·subst e;rw [A5r] at h4;cases h4
  ·exact h (.inr ⟨h3,by omega⟩)
theorem C7k (x m:Int) (st:St):S P 76 [eI x,eI m] st fun v st'=>v=.bool (N9 0 m x)∧st'=st:=by
 refine F4 [] Tryz.func76 ?_
 unfold N9
 refine B9 (fun h=>?_) (fun h=>?_)<;>rw [h]<;>(conv=>whnf)<;>exact ⟨rfl,rfl⟩
def C8a (l:List A2D):Int:=if (l.all tenderB&&decide ((l.length:Int)≤6))=true then A2u l else 0
def C3L (o:H3):Bool:=D1 o.id&&D1 o.zone&&(decide (o.rules≥1)&&decide (o.rules≤40))&&S6 o.codes&&N9 0 100000 o.day&&(decide ((o.lines.length:Int)≥1)&&decide ((o.lines.length:Int)≤1000))
theorem C1y (o:H3):N8 o=(C3L o&&o.lines.all A1Q&&A1x o&&(A1U o.book&&(A0G o.book==o.net)&&(o.tenders.all tenderB&&decide ((o.tenders.length:Int)≤6))&&(C8a o.tenders==o.net))):=by
 have e:N8 o=(decide ((o.tenders.length:Int)≤6)&&A6d o&&A3t o&&A1x o&&A5z o&&A0r o):=rfl
 have h1:A6d o=(D1 o.id&&D1 o.zone&&(decide (o.rules≥1)&&decide (o.rules≤40))&&S6 o.codes&&N9 0 100000 o.day):=rfl
 rw [e,h1]
 unfold A3t A5z A0r C3L C8a
 generalize decide ((o.tenders.length:Int)≤6)=a1
 generalize o.tenders.all tenderB=a2
 generalize o.lines.all A1Q=a3
 generalize A1x o=a4
 generalize A1U o.book=a5
 generalize (A0G o.book==o.net)=a6
 generalize decide ((o.lines.length:Int)≥1)=a7
 generalize decide ((o.lines.length:Int)≤1000)=a8
 generalize (D1 o.id&&D1 o.zone&&(decide (o.rules≥1)&&decide (o.rules≤40))&&S6 o.codes&&N9 0 100000 o.day)=a9
 cases a1<;>cases a2<;>simp only [D7u,D7h,D6Y,D7c,if_true]<;>generalize (A2u o.tenders==o.net)=b<;>cases a3<;>cases a4<;>cases a5<;>cases a6<;>cases a7<;>cases a8<;>cases a9<;>cases b<;>rfl
theorem C1q {t k:Int} (ht:0≤t∧t≤10000000000000) (hk:0≤k∧k≤100000):0≤t * k∧t * k≤1000000000000000000:=by
 refine ⟨D8d ht.1 hk.1,?_⟩
 have h1:t * k≤10000000000000 * k:=D8C ht.2 hk.1
 omega
theorem B5C (t n k:Int) (ht:0≤t∧t≤10000000000000) (hn:1≤n∧n≤100000) (hk:0≤k∧k≤n) (st:St):S P 65 [eI t,eI n,eI k] st fun v st'=>v=.tuple [eI (R6 t n k),eI 0]∧st'=st:=by
 have n1:=A5i t st
 rw [show G7 t=true from E0.2 ⟨by omega,by omega⟩] at n1
 have g1:decide (n<1)=false:=D6L (by omega)
 have g2:decide (n>100000)=false:=D6L (by omega)
 have g3:decide (k<0)=false:=D6L (by omega)
 have g4:decide (k>n)=false:=D6L (by omega)
 have w1:IntKind.u64.wrap t=t:=B6 (by omega) (by omega)
 have w2:IntKind.u64.wrap k=k:=B6 (by omega) (by omega)
 have w3:IntKind.u64.wrap n=n:=B6 (by omega) (by omega)
 have hm:=C1q ht (k:=k) ⟨hk.1,by omega⟩
 have w4:IntKind.u64.wrap (t * k)=t * k:=B6 hm.1 (by omega)
 have hu:=A3g ht.1 hn.1 hk.1 hk.2
 have w5:IntKind.u64.wrap ((t * k).tdiv n)=R6 t n k:=by rw [D7Z hm.1];exact B6 (x:=R6 t n k) hu.1 (by omega)
 have w6:IntKind.i64.wrap (R6 t n k)=R6 t n k:=A5 (by omega) (by omega)
 refine SyW [] Tryz.func65 ?_
 repeat' ((conv=>whnf);first | refine B3 n1 ?_ | rw [g1] | rw [g2] | rw [g3] | rw [g4])
 conv=>whnf
 rw [w3,D6L (show ¬ n=0 by omega)];conv=>whnf
 rw [w1,w2,w4,w5,w6]
 exact ⟨rfl,rfl⟩
def A7M (x:A0J):E8:=⟨x.sku,x.left,x.price⟩
theorem C4M (o:H3) (hl:o.lines.length≤100000) (st:St):S P 51 [O7 o] st fun v st'=>v=A8 3 J1 (A9z o)∧st'=st:=by
 refine A0L (ty:=137) ?_
 refine F4 [1,5] Tryz.func51 ?_
 refine lp o.lines.length [3,7,8,9] (fun i vs s=>∃ sv,vs=[sv,A8 6 V7 o.lines,eI o.lines.length,eI i]∧E6 137 3 J1 ((o.lines.take i).map A7M) st sv s) ?_ ?_
 ·conv=>whnf
  exact ⟨.emp,rfl,E6.start _ _ _ _⟩
 rintro i vs s hi ⟨sv,rfl,hc⟩
 conv=>whnf
 cases h:decide ((i:Int)<(o.lines.length:Int))
 ·obtain rfl:=C5 h hi
  rw [D6O] at hc;conv=>whnf
  exact hc
 have hi':=E2 h
 have hln:((o.lines.take i).map A7M).length=i:=by rw [D6J,D6N];omega
 have htk:(o.lines.take (i+1)).map A7M=(o.lines.take i).map A7M++[A7M (o.lines.getD (i:Int).toNat default)]:=A1L hi' A7M
 conv=>whnf
 refine E7 ?_
 refine E6.app (q:=C6X) (y:=A7M (o.lines.getD (i:Int).toNat default)) rfl rfl rfl rfl rfl rfl (by rw [hln];show (i+1) * 32≤140737488355328;omega) hc (fun sv' s' hc'=>?_);conv=>whnf
 refine G2 ?_
 exact nx hi' ⟨sv',by rw [B4 (by omega)],by rw [htk];exact hc'⟩
def A9k (o:H3) (i:Nat):A1v:=⟨shG (o.lines.take i),shT (o.lines.take i),if U2 (o.lines.take i)=true then o.ship else 0,if U2 (o.lines.take i)=true then o.shipTax else 0,0⟩
theorem B4u {l:List A0J} {i:Nat} (hi:i<l.length):U2 (l.take (i+1))=(U2 (l.take i)||decide ((l.getD i default).left>0)):=by
 unfold U2;rw [L0 hi,List.any_append];simp
theorem C2e {l:List A0J} (hl:l.length≤1000) (hk:∀ x∈l,A1Q x=true) (i:Nat):(0≤shG (l.take i)∧shG (l.take i)≤10000000000000000)∧(0≤shT (l.take i)∧shT (l.take i)≤10000000000000000):=by
 have hln:(l.take i).length≤1000:=by rw [D6N];omega
 have a:=B1P (f:=fun x:A0J=>R6 x.goods x.sold x.left) (M:=10000000000000) (by decide) (l.take i) (fun x hx=>by
  obtain ⟨_,_,h1,h2,h3,_⟩:=A4w (hk x (D7G _ _ hx))
  have:=A3g h3.1 h1.1 h2.1 h2.2
  exact ⟨this.1,by omega⟩) 0
 have b:=B1P (f:=fun x:A0J=>R6 x.tax x.sold x.left) (M:=10000000000000) (by decide) (l.take i) (fun x hx=>by
  obtain ⟨_,_,h1,h2,_,h3⟩:=A4w (hk x (D7G _ _ hx))
  have:=A3g h3.1 h1.1 h2.1 h2.2
  exact ⟨this.1,by omega⟩) 0
 unfold shG shT
 exact ⟨⟨by omega,by omega⟩,by omega,by omega⟩
set_option maxHeartbeats 2000000 in
theorem C2b (o:H3) (hs:A5R o) (st:St):S P 18 [O7 o] st fun v st'=>v=A2O (A5q o)∧st'=st:=by
 have n1:=fun s=>A8P o hs s
 have hB:A5q o=if N8 o=true then A9k o o.lines.length else ⟨0,0,0,0,0⟩:=by
  unfold A5q A9k;rw [D6O]
 have hO:N8 o=true→o.lines.length≤1000∧∀ x∈o.lines,A1Q x=true:=fun h=>by
  rw [C1y] at h
  unfold C3L at h
  simp only [D6I,D6F,D6W] at h
  exact ⟨by omega,h.1.1.2⟩
 generalize N8 o=b at *
 refine A0Q ?_
 refine A1S [1,5] A7o mixed Tryz.func18 (by rfl) rfl rfl rfl ?_;conv=>whnf
 intro b2 hb2;conv=>whnf
 intro b3 hb3
 have h23:b2≠b3:=fun e=>by subst e;rw [A0] at hb3;cases hb3
 have hs2:F1 st (upd st b2 ⟨47,5,1,fun _=>H7 r47.zero⟩):=(F1.refl st).upd hb2
 have hb3':st b3=none:=hs2.none hb3
 conv=>whnf
 refine B3 (n1 _) ?_
 cases b
 ·rw [if_neg (by simp)] at hB
  rw [hB];conv=>whnf
  refine J6 (A0 ..) rfl ?_
  refine Z7 (by rw [A9 h23];exact A0 ..) rfl ?_
  refine J6 (A0 ..) (A4 ..) ?_
  exact ⟨rfl,((hs2.upd hb3).over hb2)⟩
 rw [if_pos rfl] at hB
 obtain ⟨hl,hk⟩:=hO rfl
 rw [hB]
 clear hB n1 hO
 conv=>whnf
 refine lp o.lines.length [1,2,3,15,16,17] (fun i vs s=>vs=[.fptr (O7 o) 0,.optr 5 b2 0 0,.optr 5 b3 0 0,A8 6 V7 o.lines,eI o.lines.length,eI i]∧∃ f3,s=upd (upd st b2 ⟨47,5,1,fun _=>H7 r47.zero⟩) b3 ⟨47,5,1,f3⟩∧f3 0=A2O (A9k o i)) ?_ ?_
 ·conv=>whnf
  exact ⟨rfl,_,rfl,rfl⟩
 rintro i vs s hi ⟨rfl,f3,rfl,hf3⟩
 conv=>whnf
 cases h:decide ((i:Int)<(o.lines.length:Int))
 ·obtain rfl:=C5 h hi
  generalize A9k o o.lines.length=Z at *
  conv=>whnf
  refine J6 (A0 ..) hf3 ?_
  refine Z7 (by rw [A9 h23];exact A0 ..) rfl ?_
  refine J6 (A0 ..) (A4 ..) ?_
  exact ⟨rfl,((hs2.upd hb3).over hb2)⟩
 have hi':=E2 h
 have hkx:=A4w (hk (o.lines.getD (i:Int).toNat default) (A7 hi'))
 obtain ⟨-,-,k1,k2,k3,k4⟩:=hkx
 have c1:=fun s=>B5C (o.lines.getD (i:Int).toNat default).goods (o.lines.getD (i:Int).toNat default).sold (o.lines.getD (i:Int).toNat default).left k3 k1 k2 s
 have c2:=fun s=>B5C (o.lines.getD (i:Int).toNat default).tax (o.lines.getD (i:Int).toNat default).sold (o.lines.getD (i:Int).toNat default).left k4 k1 k2 s
 have hin:=C2e hl hk i
 have u1:=A3g k3.1 k1.1 k2.1 k2.2
 have u2:=A3g k4.1 k1.1 k2.1 k2.2
 have sg:shG (o.lines.take (i+1))=shG (o.lines.take i)+R6 (o.lines.getD (i:Int).toNat default).goods (o.lines.getD (i:Int).toNat default).sold (o.lines.getD (i:Int).toNat default).left:=H6 hi' _ _
 have stt:shT (o.lines.take (i+1))=shT (o.lines.take i)+R6 (o.lines.getD (i:Int).toNat default).tax (o.lines.getD (i:Int).toNat default).sold (o.lines.getD (i:Int).toNat default).left:=H6 hi' _ _
 have sa:U2 (o.lines.take (i+1))=(U2 (o.lines.take i)||decide ((o.lines.getD (i:Int).toNat default).left>0)):=B4u hi'
 have w1:IntKind.i64.wrap (shG (o.lines.take i)+R6 (o.lines.getD (i:Int).toNat default).goods (o.lines.getD (i:Int).toNat default).sold (o.lines.getD (i:Int).toNat default).left)=shG (o.lines.take (i+1)):=by rw [sg];exact A5 (by omega) (by omega)
 have w2:IntKind.i64.wrap (shT (o.lines.take i)+R6 (o.lines.getD (i:Int).toNat default).tax (o.lines.getD (i:Int).toNat default).sold (o.lines.getD (i:Int).toNat default).left)=shT (o.lines.take (i+1)):=by rw [stt];exact A5 (by omega) (by omega)
 have hN:A9k o (i+1)=⟨shG (o.lines.take (i+1)),shT (o.lines.take (i+1)),if U2 (o.lines.take (i+1))=true then o.ship else 0,if U2 (o.lines.take (i+1))=true then o.shipTax else 0,0⟩:=rfl
 have hZ:A9k o i=⟨shG (o.lines.take i),shT (o.lines.take i),if U2 (o.lines.take i)=true then o.ship else 0,if U2 (o.lines.take i)=true then o.shipTax else 0,0⟩:=rfl
 rw [sa] at hN
 rw [hZ] at hf3
 generalize shG (o.lines.take (i+1))=G1 at *
 generalize shT (o.lines.take (i+1))=T1 at *
 generalize shG (o.lines.take i)=G0 at *
 generalize shT (o.lines.take i)=T0 at *
 generalize U2 (o.lines.take i)=a0 at *
 generalize R6 (o.lines.getD (i:Int).toNat default).goods (o.lines.getD (i:Int).toNat default).sold (o.lines.getD (i:Int).toNat default).left=Y1 at *
 generalize R6 (o.lines.getD (i:Int).toNat default).tax (o.lines.getD (i:Int).toNat default).sold (o.lines.getD (i:Int).toNat default).left=Y2 at *
 clear hin u1 u2 sg stt sa hZ
 conv=>whnf
 refine E7 ?_
 refine I2 (c1 _) ?_
 refine I2 (c2 _) ?_
 refine J6 (A0 ..) hf3 ?_
 rw [w1]
 refine stU (A0 ..) hf3 ?_
 rw [C0];conv=>whnf
 refine J6 (A0 ..) (A4 ..) ?_
 rw [w2]
 refine stU (A0 ..) (A4 ..) ?_
 rw [C0];conv=>whnf
 refine B9 (fun h5=>?_) (fun h5=>?_)<;>rw [h5] at hN ⊢
 ·rw [D7v] at hN;conv=>whnf
  refine .inr ⟨[5,7],.qui 0 (.qui 1 (.qui 2 (.qui 3 (.qui 4 (.eff 5 [3] (.qui 6 (.eff 7 [] (.done)))))))),by kernel_rfl,?_⟩;conv=>whnf
  refine ⟨_,fun _=>True,trivial,fun s _=>⟨rfl,rfl⟩,?_⟩;conv=>whnf
  refine ⟨_,fun _=>True,trivial,fun s _=>⟨rfl,rfl⟩,?_⟩;conv=>whnf
  refine stU (A0 ..) (A4 ..) ?_
  rw [C0];conv=>whnf
  refine ⟨fun _=>trivial,?_⟩;conv=>whnf
  refine stU (A0 ..) (A4 ..) ?_
  rw [C0];conv=>whnf
  refine G2 ?_
  exact nx hi' ⟨by rw [B4 (by omega)],_,rfl,by rw [A4,hN];rfl⟩
 ·rw [D7w] at hN;conv=>whnf
  refine G2 ?_
  exact nx hi' ⟨by rw [B4 (by omega)],_,rfl,by rw [A4,hN];rfl⟩
theorem B7S (l:List C8) (hl:l.length≤100000) (st:St):S P 62 [A8 1 eS l] st fun v st'=>E6 9 1 eS l st v st':=by
 refine SyW [] Tryz.func62 ?_
 cases l with
 | nil =>
  conv=>whnf
  refine ⟨?_,?_⟩
  ·conv=>whnf
   exact Col.start _ _ _ _
  ·conv=>whnf
   refine apE rfl rfl rfl rfl rfl (by show 0 * 16≤_;omega) (fun _=>?_) (fun h=>absurd h (by show ¬ 0<0;omega));conv=>whnf
   exact Col.start _ _ _ _
 | cons u us =>
  conv=>whnf
  refine Col.apps (n:=0) (m:=us.length+1) (q:=r9) (f:=fun k=>eS ((u::us).getD k default)) rfl rfl rfl rfl rfl (fun i hi=>by rw [D6Q]) (by show (0+(us.length+1)) * 16≤140737488355328;simp only [D7o] at hl;omega) (Col.start _ _ _ _) (fun sv' st'' hc'=>?_);conv=>whnf
  rw [D6Q] at hc'
  exact hc'
theorem B5W (l:List C8) (hl:l.length≤100000) (st:St):S P 62 [A8 1 eS l] st fun v st'=>v=A8 1 eS l∧st'=st:=A0L (B7S l hl st)
structure Pay where
 kind:Int
 amount:Int
 deriving Inhabited
def B8b (x:Pay):AV:=.agg [eI x.kind,eI x.amount]
def B1R (x:Pay):Bool:=N9 1 9 x.kind&&decide (x.amount≥1)&&G7 x.amount
def U7 (l:List Pay):Int:=l.foldl (fun a x=>a+x.amount) 0
def B0e (l:List Pay) (total:Int):Bool:=decide ((l.length:Int)≤6)&&l.all B1R&&(U7 l==total)
theorem B8G {l:List Pay}:∀ i,i≤l.length→(∀ k,k<i→B1R (l.getD k default)=true)→0≤U7 (l.take i)∧U7 (l.take i)≤100000000000000 * (i:Int)
 | 0,_,_=>⟨by rw [D8h];exact D7l _,by rw [D8h];exact D7l _⟩
 | i+1,hi,h=>by
  have ih:=B8G i (by omega) fun k hk=>h k (by omega)
  have hx:=h i (by omega)
  unfold B1R G7 at hx
  simp only [D6I,E0,D6F] at hx
  have e:U7 (l.take (i+1))=U7 (l.take i)+(l.getD i default).amount:=H6 (by omega) _ _
  rw [e]
  omega
def A3s (l:List E8) (q:U5) (i:Nat):A0J:=⟨(l.getD i default).sku,(l.getD i default).price,(l.getD i default).qty,(l.getD i default).qty,gI q.goods i,gI q.taxes i⟩
def P3 (l:List E8) (q:U5):List A0J:=(List.range l.length).map (A3s l q)
def B1Q (t:Int) (x:Pay):Pay:=⟨1+B5 x.kind 5,1+B5 x.amount t⟩
def A3Q (s:Int×List Pay) (x:Pay):Int×List Pay :=
 if s.1>1 then (if (B1Q s.1 x).amount<s.1 then (s.1 - (B1Q s.1 x).amount,s.2++[B1Q s.1 x]) else s) else s
def M9 (t:Int) (l:List Pay):Int×List Pay:=l.foldl A3Q (t,[])
def Q0 (t:Int) (l:List Pay):List Pay :=
 if (M9 t (l.take 2)).1>0 then (M9 t (l.take 2)).2++[⟨1+B5 l.length 5,(M9 t (l.take 2)).1⟩] else (M9 t (l.take 2)).2
theorem B1S (a:List Pay) (x:Pay):U7 (a++[x])=U7 a+x.amount:=by unfold U7;rw [D8H];rfl
theorem C4q {t:Int} (ht:1<t∧t≤100000000000000) (x:Pay):B1R (B1Q t x)=true:=by
 have h1:=C9 x.kind (n:=5) (by decide)
 have h2:=C9 x.amount (n:=t) (by omega)
 unfold B1R G7 B1Q
 simp only [D6I,E0,D6F]
 omega
structure B9B (t:Int) (n:Nat) (s:Int×List Pay):Prop where
 left:0≤s.1∧s.1≤t
 sum:U7 s.2+s.1=t
 ok:∀ x∈s.2,B1R x=true
 len:s.2.length≤n
theorem B9B.step {t:Int} {n:Nat} {s:Int×List Pay} (ht:t≤100000000000000) (h:B9B t n s) (x:Pay):B9B t (n+1) (A3Q s x):=by
 obtain ⟨h1,h2,h3,h4⟩:=h
 unfold A3Q
 split
 ·rename_i hs
  split
  ·rename_i ha
   have hk:=C4q (t:=s.1) ⟨hs,by omega⟩ x
   have hp:(B1Q s.1 x).amount≥1:=by
    unfold B1R at hk
    simp only [D6I,D6F] at hk
    exact hk.1.2
   exact ⟨⟨by show 0≤s.1 - _;omega,by show s.1 - _≤t;omega⟩,by show U7 (s.2++[_])+(s.1 - _)=t;rw [B1S];omega,fun y hy=>by
    rcases D7T.1 hy with hy | hy
    ·exact h3 y hy
    ·rw [D7i.1 hy];exact hk,by show (s.2++[_]).length≤n+1;rw [D6P];exact Nat.succ_le_succ h4⟩
  ·exact ⟨h1,h2,h3,by omega⟩
 ·exact ⟨h1,h2,h3,by omega⟩
theorem A7Q {t:Int} (h0:0≤t) (ht:t≤100000000000000) (l:List Pay):∀ i,i≤l.length→B9B t i (M9 t (l.take i))
 | 0,_=>⟨⟨h0,D7l _⟩,by show 0+t=t;omega,fun x hx=>(by cases hx),D6M _⟩
 | i+1,hi=>by
  have:=(A7Q h0 ht l i (by omega)).step ht (l.getD i default)
  rwa [show M9 t (l.take (i+1))=A3Q (M9 t (l.take i)) (l.getD i default) from H6 (by omega) _ _]
theorem B3c {t:Int} (h0:0≤t) (ht:t≤100000000000000) (l:List Pay):B0e (Q0 t l) t=true∧(Q0 t l).length≤3:=by
 have hlen:(l.take 2).length≤2:=by rw [D6N];omega
 have h:=A7Q h0 ht (l.take 2) (l.take 2).length (D6M _)
 rw [D6O] at h
 obtain ⟨h1,h2,h3,h4⟩:=h
 have hm:=C9 (l.length:Int) (n:=5) (by decide)
 unfold Q0 B0e
 generalize M9 t (l.take 2)=s at *
 split
 ·rename_i hp
  refine ⟨?_,by rw [D6P];show s.2.length+1≤3;omega⟩
  rw [B1S]
  simp only [D6I,D6F,D6W,D7B]
  refine ⟨⟨by rw [D6P];show ((s.2.length+1:Nat):Int)≤6;omega,fun x hx=>?_⟩,h2⟩
  rcases D7T.1 hx with hx | hx
  ·exact h3 x hx
  ·rw [D7i.1 hx]
   unfold B1R G7
   simp only [D6I,E0,D6F]
   omega
 ·rename_i hp
  simp only [D6I,D6F,D6W,D7B]
  exact ⟨⟨⟨by omega,h3⟩,by omega⟩,by omega⟩
end Go.Proofs.YtaapofnkmpiknaaGreat
