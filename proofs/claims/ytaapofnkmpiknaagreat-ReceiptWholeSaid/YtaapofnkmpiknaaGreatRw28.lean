/- Part 28 of the proof: contracts of the functions that the law reaches -/
import Derived.Test.YtaapofnkmpiknaaGreatRw27
set_option maxRecDepth 100000
set_option linter.unusedVariables false
set_option linter.unusedSimpArgs false
namespace Go.Proofs.YtaapofnkmpiknaaGreat
open Go Go.Ab
attribute [local irreducible] upd del
def B2J (p:B1) (us:List B2) (D:List Int) (m i:Nat):Int:=if ((i % m:Nat):Int)≥p.buy then J6 (gU us (gI D i).toNat).net p.rate else 0
def I4 (p:B1) (us:List B2) (D:List Int) (m n:Nat):List Int:=(List.range n).map (B2J p us D m)
theorem B7s {us:List B2} {i:Nat} (h:i<us.length):less1 us i 0=us:=by
 unfold less1
 refine D7S (by simp) fun j h1 h2=>?_
 rw [List.getElem_set]
 split
 ·rename_i e;subst e
  have e:gU us i=us[i]:=by unfold gU;rw [D5l,D5s h];rfl
  rw [e,Int.sub_zero]
 ·rfl
theorem C5k (d:List QE) {k:Nat} (h:k<d.length):gI (d.map (·.2)) k=(at_ d k).2:=D4 (fun e:QE=>e.2) d h
theorem B6h {p:B1} {us:List B2} {d:List QE} {m:Nat} (hP:Y9 us (d.map (·.2))) {n:Nat} (hn:n≤d.length) {s:Nat} (hs:s % m=0) (hsm:s+m≤n):∀ k,k≤m →
  A0Q p (C9 us (d.map (·.2)) (I4 p us (d.map (·.2)) m n) s) (d.drop s) k=(C9 us (d.map (·.2)) (I4 p us (d.map (·.2)) m n) (s+k),A2 ((I4 p us (d.map (·.2)) m n).take (s+k)) - A2 ((I4 p us (d.map (·.2)) m n).take s))
 | 0,_=>by unfold A0Q;rw [D7F,Int.sub_self]
 | k+1,hk=>by
  have ih:=B6h (p:=p) hP hn hs hsm k (by omega)
  have hln:(I4 p us (d.map (·.2)) m n).length=n:=by unfold I4;simp
  have hml:(d.map (·.2)).length=d.length:=D5p ..
  have hrg:=hP.rng (s+k) (by omega)
  have hat:=A3E (offs:=I4 p us (d.map (·.2)) m n) hP (show s+k<(d.map (·.2)).length by omega)
  have he:gI (I4 p us (d.map (·.2)) m n) (s+k)=if (k:Int)<p.buy then 0 else J6 (gU us (gI (d.map (·.2)) (s+k)).toNat).net p.rate:=by
   unfold I4
   rw [L9 _ (by omega)]
   unfold B2J
   rw [show (s+k) % m=k by rw [Nat.add_mod,hs,D5A,Nat.mod_mod,D8n (by omega)]]
   split<;>split<;>first | rfl | omega
  have hdr:at_ (d.drop s) k=at_ d (s+k):=by unfold at_;rw [D5l,D5l,D6W]
  have hts:=K7 (l:=I4 p us (d.map (·.2)) m n) (i:=s+k) (by omega)
  rw [←D7U]
  unfold A0Q
  rw [ih,hts,he,hdr,←C5k d (by omega)]
  split
  ·rw [D7A]
   show _=(less1 _ _ _,_)
   rw [he,if_pos (by assumption),B7s (by rw [P6];exact hrg.2)]
  ·show _=(less1 _ _ _,_)
   rw [he,if_neg (by assumption),hat]
   congr 1
   show _ - _+_=_
   omega
theorem B8K {p:B1} {us:List B2} {d:List QE} {m:Nat} (hP:Y9 us (d.map (·.2))) {q:Nat} (hn:q * m≤d.length):∀ r,r≤q →
  bgF p us d m r=(C9 us (d.map (·.2)) (I4 p us (d.map (·.2)) m (q * m)) (r * m),A2 ((I4 p us (d.map (·.2)) m (q * m)).take (r * m)))
 | 0,_=>by rw [Nat.zero_mul];rfl
 | r+1,hr=>by
  have ih:=B8K (p:=p) hP hn r (by omega)
  have e:(r+1) * m=r * m+m:=Nat.succ_mul r m
  have h1:r * m+m≤q * m:=by rw [←e];exact D6n m hr
  have h2:=B6h (p:=p) hP hn (s:=r * m) (Nat.mul_mod_left ..) h1 m (D5u _)
  unfold bgF
  rw [ih]
  simp only
  rw [h2,e]
  congr 1
  show _+(_ - _)=_
  omega
theorem B5h {us:List B2} {mine:List Int} (hm:N6 us mine):Y9 us ((D8 us mine).map (·.2)):=by
 have hp:((D8 us mine).map (·.2)).Perm mine:=by
  refine ((A3f us mine).map _).trans (List.Perm.of_eq ?_)
  rw [D7L]
  exact (D6D fun x _=>rfl).trans (List.map_id mine)
 have hnd:mine.Pairwise (·≠·):=by
  rw [D6V]
  intro i j hi hj hij
  have:=hm.lt i j hij hj
  simp only [gI,D5l,D5s hi,D5s hj,Option.getD_some] at this
  omega
 have hr:∀ k,k<((D8 us mine).map (·.2)).length→0≤gI ((D8 us mine).map (·.2)) k∧(gI ((D8 us mine).map (·.2)) k).toNat<us.length:=fun k hk=>A8j (P:=fun x=>0≤x∧x.toNat<us.length) hp (fun x hx=>by obtain ⟨j,hj,rfl⟩:=D3 hx;exact hm.rng j hj) hk
 refine ⟨hr,fun i k hik hk=>?_⟩
 have h1:=(hp.symm.pairwise hnd (fun h=>h.symm))
 have:=B3h h1 hik hk
 have:=hr i (by omega)
 have:=hr k hk
 omega
theorem Y9.take {us:List B2} {l:List Int} (h:Y9 us l) (n:Nat):Y9 us (l.take n):=by
 have e:∀ k,k<(l.take n).length→gI (l.take n) k=gI l k∧k<l.length:=fun k hk=>by
  rw [D5v] at hk
  unfold gI
  rw [D5l,D5l,D5z (by omega)]
  exact ⟨rfl,by omega⟩
 exact ⟨fun k hk=>by rw [(e k hk).1];exact h.rng k (e k hk).2,fun i k hik hk=>by rw [(e k hk).1,(e i (by omega)).1];exact h.ne i k hik (e k hk).2⟩
theorem A8w {us:List B2} {l offs:List Int} {n:Nat}:∀ k,k≤n→C9 us (l.take n) offs k=C9 us l offs k
 | 0,_=>rfl
 | k+1,hk=>by
  unfold C9
  rw [A8w k (by omega)]
  congr 1
  unfold gI;rw [D5l,D5l,D5z (by omega)]
set_option maxHeartbeats 400000 in
theorem C0R (p:B1) (us:List B2) (mine:List Int) (hps:A2L p) (hright:H0 p=true) (hk:p.kind=3) (hp:B0t p) (hu:E1 us) (hm:N6 us mine) (st:St) :
  S P 217 [B7 p,C6 us,B0 mine] st fun v st'=>v=.tuple [C6 (V0 p us mine).1,eI (V0 p us mine).2]∧st'=st:=by
 have hB:=hp.buy
 have hG:=hp.get
 have hml:=hm.len
 have hul:=hu.len
 have hdl:((D8 us mine).map (·.2)).length=mine.length:=by rw [D5p,A1N]
 have hP:=B5h hm
 obtain ⟨m,hm1⟩:∃ m:Nat,(m:Int)=p.buy+p.get:=⟨(p.buy+p.get).toNat,by omega⟩
 have w1:IntKind.i64.wrap (p.buy+p.get)=(m:Int):=by rw [A5 (by omega) (by omega)];omega
 have hq0:mine.length / m * m≤mine.length:=Nat.div_mul_le_self ..
 have hbg:=B8K (p:=p) (m:=m) hP (q:=mine.length / m) (by rw [A1N];exact hq0) _ (D5u _)
 have hout:V0 p us mine=(if (decide (A2 (I4 p us ((D8 us mine).map (·.2)) m (mine.length / m * m))>0)&&p.closes)=true then closeB (C9 us ((D8 us mine).map (·.2)) (I4 p us ((D8 us mine).map (·.2)) m (mine.length / m * m)) (mine.length / m * m)) (((D8 us mine).map (·.2)).take (mine.length / m * m)) else C9 us ((D8 us mine).map (·.2)) (I4 p us ((D8 us mine).map (·.2)) m (mine.length / m * m)) (mine.length / m * m),A2 (I4 p us ((D8 us mine).map (·.2)) m (mine.length / m * m))):=by
  have hl:(I4 p us ((D8 us mine).map (·.2)) m (mine.length / m * m)).length=mine.length / m * m:=by unfold I4;simp
  unfold V0
  simp only
  rw [show (p.buy+p.get).toNat=m by omega,A1N,hbg]
  simp only
  rw [show (I4 p us ((D8 us mine).map (·.2)) m (mine.length / m * m)).take (mine.length / m * m)=I4 p us ((D8 us mine).map (·.2)) m (mine.length / m * m) from D7p (by omega),List.map_take]
 refine F1 [3] Tryz.func217 ?_
 refine H8 (A7t p hps hright st) ?_
 rw [show (p.kind != 3)=false from by rw [hk];rfl];conv=>whnf
 refine H8 (B7Q us mine hu hm st) ?_
 refine B4 (B9p us mine hu hm st) ?_
 clear hbg
 generalize (D8 us mine).map (·.2)=D at *
 conv=>whnf
 rw [w1,D5t (show ¬(m:Int)=0 by omega)];conv=>whnf
 have hN:IntKind.i64.wrap ((D.length:Int) - (D.length:Int).tmod (m:Int))=((mine.length / m * m:Nat):Int):=by
  rw [hdl,D6Y (by omega),←Int.natCast_emod]
  have:=Nat.div_add_mod mine.length m
  rw [Nat.mul_comm] at this
  rw [A5 (by omega) (by omega)];omega
 rw [hN]
 generalize hNe:mine.length / m * m=N at *
 refine ⟨rfl,⟨by omega,by omega,by omega⟩,?_⟩;conv=>whnf
 refine lp N [1,3,8,9,10,11] (fun i vs s=>∃ sv,vs=[C6 us,.fptr (B7 p) 0,.arr 1 N (fun i=>eI (D.getD ((0:Int).toNat+i) default)),eI m,sv,eI i]∧E0 2 1 eI (I4 p us D m i) st sv s) ?_ ?_
 ·conv=>whnf
  exact ⟨.emp,rfl,E0.start _ _ _ _⟩
 ·rintro i vs s hi ⟨sv,rfl,hc⟩
  conv=>whnf
  cases hd:decide ((i:Int)<(N:Int))
  ·obtain rfl:=C5 hd hi
   have hln:(I4 p us D m i).length=i:=by unfold I4;simp
   have hb0:∀ k,k<(I4 p us D m i).length→0≤gI (I4 p us D m i) k∧gI (I4 p us D m i) k≤(gU us (gI (D.take i) k).toNat).net:=fun k hk=>by
    have e:gI (D.take i) k=gI D k:=by unfold gI;rw [D5l,D5l,D5z (by omega)]
    rw [e]
    unfold I4
    rw [L9 _ (by omega)]
    unfold B2J
    have h9:=hu.at0 (gI D k).toNat
    split
    ·exact ⟨(S5 _ _).1,A4W h9 hp.rate.1 hp.rate.2⟩
    ·exact ⟨D5W _,h9⟩
   have h0s:∀ x∈I4 p us D m i,0≤x:=fun x hx=>by obtain ⟨k,hk,rfl⟩:=D3 hx;exact (hb0 k hk).1
   have hsum:A2 (I4 p us D m i)≤1000000000000000:=by
    have h5:=A2l hu (hP.take i) (offs:=I4 p us D m i) (by rw [hln,D5v];omega) hb0 (I4 p us D m i).length (D5u _)
    rw [D5w] at h5
    have:=h5.sum
    have:=hu.sum
    have:=C1 (h5.ok hu).nets0
    omega
   have hE:A2B us (D.take i) (I4 p us D m i) p.closes=V0 p us mine:=by
    rw [hout]
    unfold A2B
    rw [hln,A8w i (D5u _)]
    have hn:=C1 h0s
    by_cases hz:A2 (I4 p us D m i)=0
    ·rw [if_pos hz,hz,A2T (A3F h0s hz) i (by omega)];rfl
    ·rw [if_neg hz,D5U (show A2 (I4 p us D m i)>0 by omega),D5C]
   rw [←hE];conv=>whnf
   have hsh:A8 [C6 us,.arr 1 i (fun i=>eI (D.getD ((0:Int).toNat+i) default)),sv,eB p.closes] s [C6 us,B0 (D.take i),B0 (I4 p us D m i),eB p.closes] st:=by
    refine A8.cons (t:=s) (A8.keep _ _) (A8.cons (t:=s) ?_ (A8.cons hc.shift (A8.keep _ _)))
    have e:B0 (D.take i)=.arr 1 i (fun k=>eI (gI (D.take i) k)):=by unfold B0 A6;rw [D5v,D8s (by omega)]
    rw [e]
    refine A8.arr fun k hk=>?_
    show eI (D.getD ((0:Int).toNat+k) default)=eI ((D.take i).getD k default)
    rw [show (0:Int).toNat+k=k by simp,D5l,D5l,D5z hk]
   refine F4 hsh (B4 (B4q us (D.take i) (I4 p us D m i) p.closes hu (hP.take i) (by rw [D5v];omega) (by rw [hln,D5v];omega) hb0 hsum st) ?_);conv=>whnf
   exact ⟨rfl,rfl⟩
  ·have hi':=D9 hd
   have hr:=hP.rng i (by omega)
   have hrem:(i:Int).tmod (m:Int)=((i % m:Nat):Int):=by rw [D6Y (by omega),Int.natCast_emod]
   have hln:(I4 p us D m i).length=i:=by unfold I4;simp
   have hsn:I4 p us D m (i+1)=I4 p us D m i++[B2J p us D m i]:=by unfold I4;rw [D6L,D5P];rfl
   have hbo:B2J p us D m i=if ((i % m:Nat):Int)≥p.buy then J6 (gU us (gI D i).toNat).net p.rate else 0:=rfl
   conv=>whnf
   refine ⟨[],[],List.range 6,by kernel_rfl,?_⟩;conv=>whnf
   rw [D5t (show ¬(m:Int)=0 by omega)];conv=>whnf
   rw [hrem]
   refine B8 (fun h1=>?_) (fun h1=>?_)<;>rw [h1]
   case' refine_1 =>
    rw [if_pos (D5o h1)] at hbo;conv=>whnf
    refine ⟨[],[],List.range 12,by kernel_rfl,?_⟩;conv=>whnf
    refine E4 ?_
    rw [show (0:Int).toNat+(i:Int).toNat=i by simp]
    refine ⟨rfl,⟨by show 0≤gI D i;omega,by show gI D i<(us.length:Int);omega⟩,?_⟩;conv=>whnf
    refine ⟨_,I5 (A8q (gU us (gI D i).toNat).net p.rate _),?_⟩
    rw [←hbo]
   case' refine_2 =>
    rw [if_neg (D5q h1)] at hbo
   all_goals (conv=>whnf)
   all_goals refine E0.app (q:=r2) (y:=B2J p us D m i) rfl rfl rfl rfl rfl (by first | rfl | (rw [hbo];rfl)) (by show (_+1) * 8≤140737488355328;omega) hc (fun sv' s' hc'=>?_)
   all_goals (conv=>whnf)
   all_goals refine ⟨rfl,?_⟩
   all_goals (conv=>whnf)
   all_goals exact nx hi' ⟨sv',by rw [B3 (by omega)],by rw [hsn];exact hc'⟩
theorem C1v (used:List Bool) (l:List QE):∃ pre,l=pre++(O1 used l).2∧∀ e∈pre,used.getD e.2.toNat default=true∨(O1 used l).1=some e.2:=by
 induction l with
 | nil=>exact ⟨[],rfl,fun e h=>by cases h⟩
 | cons e l ih =>
  by_cases hu:used.getD e.2.toNat default=true
  ·have ht:O1 used (e::l)=O1 used l:=by
    show (if used.getD e.2.toNat default=true then O1 used l else (some e.2,l))=_
    rw [if_pos hu]
   obtain ⟨pre,h1,h2⟩:=ih
   rw [ht]
   exact ⟨e::pre,by rw [D7G,←h1],fun x hx=>by
    rcases D6U.1 hx with rfl | hx
    ·exact .inl hu
    ·exact h2 x hx⟩
  ·have ht:O1 used (e::l)=(some e.2,l):=by
    show (if used.getD e.2.toNat default=true then O1 used l else (some e.2,l))=_
    rw [if_neg hu]
   rw [ht]
   exact ⟨[e],rfl,fun x hx=>by rw [D5Q] at hx;subst hx;exact .inr rfl⟩
theorem B8q {used:List Bool} {pre:List QE} (h:∀ e∈pre,used.getD e.2.toNat default=true) (l:List QE):O1 used (pre++l)=O1 used l:=by
 induction pre with
 | nil=>rfl
 | cons e pre ih =>
  show (if used.getD e.2.toNat default=true then O1 used (pre++l) else (some e.2,pre++l))=_
  rw [if_pos (h e (D5N ..))]
  exact ih fun x hx=>h x (D5M _ hx)
def A3W (E:Nat→List QE) (n:Nat) (s:MSt):Prop:=∀ k,k<n→∃ pre,E k=pre++s.es k∧∀ e∈pre,s.used.getD e.2.toNat default=true
theorem A6c {used:List Bool} {i:Nat} (hi:i<used.length) (j:Nat):(used.set i true).getD j default=if j=i then true else used.getD j default:=by
 simp only [D5l,D7w]
 by_cases h:j=i
 ·subst h;simp [hi]
 ·rw [if_neg (fun e=>h e.symm),if_neg h]
theorem A3W.take {E:Nat→List QE} {us:List B2} {n:Nat} {s s':MSt} (h:A3W E n s) (hok:MOk us n s) {k:Nat} (hk:k<n) (ht:A0R k s=some s'):A3W E n s':=by
 obtain ⟨pre0,p1,p2⟩:=C1v s.used (s.es k)
 obtain ⟨_,t2,_,_⟩:=A3r s.used (s.es k)
 unfold A0R at ht
 split at ht
 ·cases ht
 ·rename_i i hi
  cases ht
  obtain ⟨e0,he0,rfl,_⟩:=t2 i hi
  have hlt:e0.2.toNat<s.used.length:=by rw [hok.len];exact (hok.rng k hk e0 he0).2
  intro j hj
  obtain ⟨pre,h1,h2⟩:=h j hj
  have hmono:∀ e:QE,s.used.getD e.2.toNat default=true→(s.used.set e0.2.toNat true).getD e.2.toNat default=true:=fun e he=>by
   rw [A6c hlt];split
   ·rfl
   ·exact he
  by_cases ej:j=k
  ·subst ej
   refine ⟨pre++pre0,?_,fun e he=>?_⟩
   ·show E j=_++A0a s.es j _ j
    rw [G8,D6M,←p1];exact h1
   ·rcases D6B.1 he with he | he
    ·exact hmono e (h2 e he)
    ·rcases p2 e he with he | he
     ·exact hmono e he
     ·rw [hi] at he
      have he:=Option.some.inj he
      show (s.used.set _ true).getD _ default=true
      rw [A6c hlt,if_pos (by rw [he])]
  ·refine ⟨pre,?_,fun e he=>hmono e (h2 e he)⟩
   show E j=_++A0a s.es k _ j
   rw [N2 ej];exact h1
theorem A3W.takes {E:Nat→List QE} {us:List B2} {n:Nat} {s:MSt} (h:A3W E n s) (hok:MOk us n s) {k:Nat} (hk:k<n):∀ {c:Nat} {s':MSt},R7 k c s=some s'→A3W E n s'
 | 0,s',e=>by cases e;exact h
 | c+1,s',e=>by
  unfold R7 at e
  obtain ⟨s1,h1,h2⟩:=D6y.1 e
  exact (A3W.takes h hok hk h1).take (hok.takes hk h1) hk h2
theorem A3W.parts {E:Nat→List QE} {us:List B2} {p:B1} {s:MSt} (h:A3W E p.parts.length s) (hok:MOk us p.parts.length s):∀ {k:Nat} {s':MSt},k≤p.parts.length→L2 p.parts k s=some s'→A3W E p.parts.length s'
 | 0,s',_,e=>by cases e;exact h
 | k+1,s',hk,e=>by
  unfold L2 at e
  obtain ⟨s1,h1,h2⟩:=D6y.1 e
  exact (A3W.parts h hok (by omega) h1).takes (MOk.parts hok (by omega) h1) (by omega) h2
def A8Z (p:B1) (ms:MSt):List Int:=match L2 p.parts p.parts.length ms with | none=>[] | some s=>C4 s.l
theorem C7W (p:B1) (hp:A3U p) (us:List B2) (hul:us.length≤100000) (E:Nat→List QE) (L:List (List Int)) (hL:L.length=p.parts.length) (hLE:∀ k,k<p.parts.length→L.getD k default=(E k).map (·.2)) (hE:∀ k,k<p.parts.length→(E k).length≤100000∧∀ e∈E k,0≤e.2∧e.2.toNat<us.length)
  (ms:MSt) (hl0:ms.l=[]) (hm:MOk us p.parts.length ms) (hpre:A3W E p.parts.length ms) (bu:Nat) (gu:Nat→AV) (st:St) (bl:Nat) (gl:Nat→AV) (hbl:st bl=some ⟨29,1,L.length,gl⟩) (hgl:∀ k,k<L.length→gl k=B0 (L.getD k default)) (hbu:st bu=some ⟨4,1,us.length,gu⟩) (hgu:∀ k,k<us.length→gu k=eB (ms.used.getD k default)) :
  S P 257 [B7 p,C6 us,.own 1 bl 0 L.length,.own 1 bu 0 us.length] st fun v st'=>v=B0 (A8Z p ms)∧st'=st:=by
 refine S.post (post:=fun v st'=>((v=.emp∧A8Z p ms=[])∨v=B0 (A8Z p ms))∧E5 st st') ?_
  (fun v st' ⟨h,hs⟩=>⟨_,st,⟨rfl,rfl⟩,by
   rcases h with ⟨rfl,h⟩ | rfl
   ·rw [h];exact (hs.shift _).trans (H9 1 _)
   ·exact hs.shift _⟩)
 have hn8:=hp.n8
 refine SyW [4] Tryz.func257 ?_
 have main:∀ (tv:AV) (s0:St) ,Col 4 1 (fun k=>eB (ms.used.getD k default)) st us.length tv s0→True:=fun _ _ _=>trivial
 conv=>whnf
 refine Col.apps (q:=r4) (f:=fun k=>eB (ms.used.getD k default)) rfl rfl rfl rfl (C8k hbu rfl (by show 0+us.length≤us.length;omega)) (fun i hi=>by show gu (0+i)=eB (ms.used.getD (0+i) default);rw [D5A];exact hgu i hi) (by show (0+us.length) * 1≤_;omega) (Col.start _ _ _ st) (fun tv s0 hc0=>?_)
 rw [D5A] at hc0
 clear main
 conv=>whnf
 refine lp p.parts.length [2,4,9,10,11] (fun i vs s=>∃ sv tv s0 si,vs=[.own 1 bl 0 L.length,.fptr (B7 p) 0,sv,tv,eI i]∧L2 p.parts i ms=some si∧Col 4 1 (fun k=>eB (si.used.getD k default)) st us.length tv s0∧E0 3 1 eI si.l s0 sv s) ?_ ?_
 ·conv=>whnf
  exact ⟨.emp,tv,s0,ms,rfl,rfl,hc0,by rw [hl0];exact E0.start _ _ _ _⟩
 ·clear hc0
  rintro i vs s hi ⟨sv,tv,s0,si,rfl,hsi,hc0,hc1⟩
  have hmi:=MOk.parts hm hi hsi
  have hpi:=hpre.parts hm hi hsi
  have hleni:=A1P hp hi hsi
  rw [hl0,D6E] at hleni;conv=>whnf
  cases hd:decide ((i:Int)<(p.parts.length:Int))
  ·obtain rfl:=C5 hd hi
   have hone:A8Z p ms=C4 si.l:=by unfold A8Z;rw [hsi]
   conv=>whnf
   refine F4 hc1.shift (B4 (C1d si.l (by omega) _) ?_);conv=>whnf
   exact ⟨.inr (by rw [hone];rfl),hc0.sup⟩
  ·have hi':=D9 hd
   have hLi:L.getD (i:Int).toNat default=(E i).map (·.2):=by rw [D5y];exact hLE i hi'
   obtain ⟨hEl,hEr⟩:=hE i hi'
   have hct:=hp.at hi'
   obtain ⟨pre,hpr1,hpr2⟩:=hpi i hi'
   have hcn:(p.parts.getD (i:Int).toNat default).count=(((p.parts.getD i default).count.toNat:Nat):Int):=by rw [D5y];omega
   have hfin:L2 p.parts (i+1) ms=R7 i (p.parts.getD i default).count.toNat si:=by
    conv=>lhs;unfold L2
    rw [hsi];rfl
   have hnone:∀ n,n≤(p.parts.getD i default).count.toNat→R7 i n si=none→A8Z p ms=[]:=fun n hn hnn=>by
    have h1:=A6h hnn hn
    rw [←hfin] at h1
    unfold A8Z;rw [A5Q h1 hi']
   have hC100:(p.parts.getD i default).count.toNat≤100:=by omega
   generalize (p.parts.getD i default).count.toNat=C at *
   conv=>whnf
   refine lp (E i).length [2,4,9,10,11,12,13] (fun k vs s=>∃ (sv tv:AV) (s0:St) (n:Nat) (si2:MSt),vs=[.own 1 bl 0 L.length,.fptr (B7 p) 0,sv,tv,eI i,eI n,eI k]∧n≤C∧R7 i n si=some si2∧O1 si2.used (si2.es i)=O1 si2.used ((E i).drop k)∧Col 4 1 (fun k=>eB (si2.used.getD k default)) st us.length tv s0∧E0 3 1 eI si2.l s0 sv s) ?_ ?_
   ·conv=>whnf
    exact ⟨sv,tv,s0,0,si,rfl,D5L _,rfl,by rw [List.drop_zero,hpr1,B8q hpr2],hc0,hc1⟩
   ·clear hc0 hc1
    rintro k vs s hk ⟨sv,tv,s0,n,si2,rfl,hn,hs2,htk,hc0,hc1⟩
    have hm2:=hmi.takes hi' hs2
    have hlen2:=A1T hs2
    have hlv:=hc1.sup bl _ (hc0.sup bl _ hbl)
    have hgi:gl (0+(i:Int).toNat)=B0 (L.getD (i:Int).toNat default):=by rw [D5A];exact hgl _ (by omega)
    conv=>whnf
    refine E4 ?_
    refine I1 hlv hgi ?_
    rw [hLi]
    have hml:((E i).map (·.2)).length=(E i).length:=D5p ..
    generalize hMe:(E i).map (·.2)=Mi at *
    rw [hml]
    cases hd1:decide ((k:Int)<((E i).length:Int))
    case' false =>
     have hbad:n<C→A8Z p ms=[]:=fun hlt=>by
      obtain rfl:=C5 hd1 hk
      refine hnone (n+1) hlt ?_
      unfold R7
      rw [hs2]
      show A0R i si2=none
      unfold A0R
      rw [htk,List.drop_length];rfl
     conv=>whnf
    case' true =>
     have hk':=D9 hd1
     conv=>whnf
     refine E4 ?_
     rw [hcn]
     cases hd2:decide ((n:Int)<(C:Int))
     case' false =>
      have hbad:n<C→A8Z p ms=[]:=fun hlt=>absurd hd2 (by rw [D5U (by omega)];simp)
      conv=>whnf
     case' true =>
      have hnC:=D9 hd2
      have hMk:Mi.getD (k:Int).toNat default=(at_ (E i) k).2:=by rw [←hMe,D5y];exact D4 (fun e:QE=>e.2) _ hk'
      have hu:0≤(at_ (E i) k).2∧(at_ (E i) k).2.toNat<us.length:=hEr _ (A7 hk')
      have hdrop:(E i).drop k=at_ (E i) k::(E i).drop (k+1):=by
       rw [D7o hk'];simp [at_,hk']
      have hul2:us.length=si2.used.length:=hm2.len.symm
      rcases hc0 with ⟨h0,rfl,rfl⟩ | ⟨h0,bt,g,hbt,rfl,rfl,hg⟩
      ·omega
      have hbs:=hc1.sup bt _ (A0 ..)
      conv=>whnf
      refine E4 ?_
      refine I1 hlv hgi ?_
      rw [hLi]
      refine E4 ?_
      rw [←hMk] at hu
      refine E4 ?_
      refine ldV hbs rfl (by omega) (v:=eB (si2.used.getD (Mi.getD (k:Int).toNat default).toNat default)) (by rw [D5A];exact hg _ hu.2) ?_;conv=>whnf
      refine B8 (fun h5=>?_) (fun h5=>?_)<;>rw [h5]
      ·have hfr:si2.used.getD (Mi.getD (k:Int).toNat default).toNat default=false:=by simpa using h5
       have htk2:O1 si2.used (si2.es i)=(some (Mi.getD (k:Int).toNat default),(E i).drop (k+1)):=by
        rw [htk,hdrop,hMk]
        show (if si2.used.getD (at_ (E i) k).2.toNat default=true then _ else _)=_
        rw [if_neg (by rw [←hMk,hfr];simp)]
       have hs3:R7 i (n+1) si=some ⟨si2.used.set (Mi.getD (k:Int).toNat default).toNat true,A0a si2.es i ((E i).drop (k+1)),si2.l++[(Mi.getD (k:Int).toNat default)]⟩:=by
        unfold R7
        rw [hs2]
        show A0R i si2=_
        unfold A0R
        rw [htk2]
       conv=>whnf
       refine E4 ?_
       refine stV hbs rfl (by omega) (v:=eB (si2.used.getD (Mi.getD (k:Int).toNat default).toNat default)) (by rw [D5A];exact hg _ hu.2) (by rfl) ?_
       have hc2:=Col.write hc1 (y':=⟨4,1,us.length,H7 g (0+(Mi.getD (k:Int).toNat default).toNat) (eB true)⟩) (A0 ..)
       rw [B6] at hc2;conv=>whnf
       refine E0.app (q:=r3) (y:=(Mi.getD (k:Int).toNat default)) (L:=si2.l) rfl rfl rfl rfl rfl rfl (by show (_+1) * 8≤140737488355328;omega) hc2 (fun sv' s' hc'=>?_);conv=>whnf
       refine F8 ?_
       refine nx hk' ⟨sv',.own 1 bt 0 us.length,_,n+1,_,by rw [B3 (by omega),B3 (by omega)],hnC,hs3,?_,.inr ⟨h0,bt,_,hbt,rfl,rfl,fun j hj=>?_⟩,hc'⟩
       ·show O1 _ (A0a si2.es i _ i)=_
        rw [G8]
       ·show H7 g (0+(Mi.getD (k:Int).toNat default).toNat) (eB true) j=eB ((si2.used.set (Mi.getD (k:Int).toNat default).toNat true).getD j default)
        rw [D5A,A6c (by omega)]
        by_cases ej:j=(Mi.getD (k:Int).toNat default).toNat
        ·rw [if_pos ej,ej,A4]
        ·rw [if_neg ej,H3 ej];exact hg j hj
      ·have hfr:si2.used.getD (Mi.getD (k:Int).toNat default).toNat default=true:=by simpa using h5
       conv=>whnf
       refine F8 ?_
       refine nx hk' ⟨sv,.own 1 bt 0 us.length,_,n,si2,by rw [B3 (by omega)],hn,hs2,?_,.inr ⟨h0,bt,g,hbt,rfl,rfl,hg⟩,hc1⟩
       rw [htk,hdrop]
       show (if si2.used.getD (at_ (E i) k).2.toNat default=true then O1 si2.used ((E i).drop (k+1)) else _)=_
       rw [if_pos (by rw [←hMk];exact hfr)]
    all_goals
     refine E4 ?_
     rw [hcn]
     cases hd3:decide ((n:Int)<(C:Int))
     ·obtain rfl:n=C:=by have:=D5q hd3;omega
      conv=>whnf
      refine F8 ?_
      exact nx hi' ⟨sv,tv,s0,si2,by rw [B3 (by omega)],by rw [hfin];exact hs2,hc0,hc1⟩
     ·have hb:=hbad (D9 hd3)
      conv=>whnf
      exact ⟨.inl ⟨rfl,hb⟩,hc0.sup.trans hc1.sup⟩
abbrev RL (ls:List Int) (svl:AV):St→St→Prop:=fun s t=>ROut E5 2 1 (fun k=>eI (gI ls k)) ls.length s svl t
abbrev RA (all ls:List Int) (sva svl:AV):St→St→Prop:=fun s t=>ROut (RL ls svl) 3 1 (fun k=>eI (gI all k)) all.length s sva t
theorem B3H (ls:List Int) (svl:AV):K9 (RL ls svl):=T7 J1 _ _ _ _ _
theorem B8H (all ls:List Int) (sva svl:AV):K9 (RA all ls sva svl):=T7 (B3H ls svl) _ _ _ _ _
theorem RA.appA {all ls:List Int} {sva svl:AV} {s t:St} {y:Int} {x:AV} {k:KK} {g:Nat→AV} (h:RA all ls sva svl s t) (hs:Z5 1 t x=some (1,g)) (hg:g 0=eI y) (hb:(all.length+1) * 8≤140737488355328)
  (hk:∀ sva' t',RA (all++[y]) ls sva' svl s t'→k sva' t'):A5p T 29 sva x t k :=
 ROut.app (q:=r3) (f:=fun k=>eI (gI (all++[y]) k)) (B3H ls svl) rfl rfl rfl rfl hs (by rw [hg];show eI y=eI (gI _ _);rw [A7W]) hb (ROut.congr h fun k hk=>by show eI _=eI _;rw [N3 hk]) (fun sv' t' h'=>hk sv' t' (by
  show ROut _ _ _ _ (all++[y]).length _ _ _
  rw [D5x];exact h'))
theorem RA.appL {all ls:List Int} {sva svl:AV} {s t:St} {y:Int} {x:AV} {k:KK} {g:Nat→AV} (h:RA all ls sva svl s t) (hs:Z5 1 t x=some (1,g)) (hg:g 0=eI y) (hb:(ls.length+1) * 8≤140737488355328)
  (hk:∀ svl' t',RA all (ls++[y]) sva svl' s t'→k svl' t'):A5p T 110 svl x t k:=by
 obtain ⟨s0,hc,h⟩:=h
 refine ROut.app (q:=r2) (f:=fun k=>eI (gI (ls++[y]) k)) J1 rfl rfl rfl rfl hs (by rw [hg];show eI y=eI (gI _ _);rw [A7W]) hb (ROut.congr h fun k hk=>by show eI _=eI _;rw [N3 hk]) (fun sv' t' h'=>hk sv' t' ⟨s0,hc,?_⟩)
 show ROut _ _ _ _ (ls++[y]).length _ _ _
 rw [D5x];exact h'
theorem RA.start (s:St):RA [] [] .emp .emp s s:=ROut.start (ROut.start (E5.refl s) _ _ _) _ _ _
theorem RA.shift {all ls:List Int} {sva svl:AV} {s t:St} (h:RA all ls sva svl s t) (a b:AV):∃ t2,A8 [a,sva,svl,b] t [a,B0 all,B0 ls,b] t2∧E5 s t2:=by
 obtain ⟨t1,h1,h2⟩:=ROut.shift (B3H ls svl) h
 obtain ⟨t2,h3,h4⟩:=ROut.shift J1 h2
 exact ⟨t2,A8.cons (A8.keep _ _) (A8.cons h1 (A8.cons h3 (A8.keep _ _))),h4⟩
def A3M (u:List Bool) (l:List Int):List Bool:=l.foldl (fun u x=>u.set x.toNat true) u
theorem B8a (u:List Bool) (l:List Int):(A3M u l).length=u.length:=by
 unfold A3M
 induction l generalizing u with
 | nil=>rfl
 | cons x l ih=>rw [D6C,ih,D6H]
theorem B7Z {u:List Bool} {l:List Int} (hl:∀ x∈l,x.toNat<u.length) (j:Nat):(A3M u l).getD j default=true↔u.getD j default=true∨j∈l.map Int.toNat:=by
 unfold A3M
 induction l generalizing u with
 | nil=>simp
 | cons x l ih =>
  rw [D6C,ih (fun y hy=>by rw [D6H];exact hl y (D5M _ hy)),A6c (hl x (D5N ..)),D6q,D6U]
  by_cases h:j=x.toNat
  ·simp [h]
  ·rw [if_neg h];simp [h]
theorem A9K {us:List B2} {l offs l' offs':List Int} (h:l.length=offs.length):∀ k,k≤offs'.length→k≤l'.length→C9 us (l++l') (offs++offs') (offs.length+k)=C9 (C9 us l offs offs.length) l' offs' k
 | 0,_,_=>by
  rw [D7F]
  have:∀ n,n≤offs.length→C9 us (l++l') (offs++offs') n=C9 us l offs n:=fun n=>by
   induction n with
   | zero=>intro _;rfl
   | succ n ih =>
    intro hn
    unfold C9
    rw [ih (by omega),N3 (by omega),N3 (by omega)]
  exact this _ (D5u _)
 | k+1,h1,h2=>by
  have ih:=A9K (us:=us) (l':=l') (offs':=offs') h k (by omega) (by omega)
  have e:∀ (a b:List Int),a.length=offs.length→gI (a++b) (offs.length+k)=gI b k:=fun a b ha=>by
   unfold gI
   rw [D5l,D5l,D5H (by omega),ha,Nat.add_sub_cancel_left]
  rw [←D7U]
  unfold C9
  rw [ih,e l l' h,e offs offs' rfl]
structure C4N (p:B1) (us:List B2) (E:Nat→List QE) (D:Nat) (b:BSt) (ls:List Int):Prop where
 ok:BOk p us D b
 pre:A3W E p.parts.length ⟨b.ms.used,b.ms.es,[]⟩
 len:ls.length=b.taken.length
 out:b.out=C9 us b.taken ls ls.length
 sum:A2 ls=b.all
 pos:b.taken=[]∨0<b.all
 bnd:∀ k,k<ls.length→0≤gI ls k∧gI ls k≤(gU us (gI b.taken k).toNat).net
 nd:(b.taken.map Int.toNat).Nodup
 used:∀ x∈b.taken,b.ms.used.getD x.toNat default=true
theorem C4N.step {p:B1} (hp:A3U p) {us:List B2} (hu:E1 us) {E:Nat→List QE} {D:Nat} {b:BSt} {ls:List Int} (h:C4N p us E D b ls) {s:MSt} (hs:L2 p.parts p.parts.length ⟨b.ms.used,b.ms.es,[]⟩=some s) (hc:H6 us s.l>p.amount) :
  E2 us (C4 s.l)=I8 b.out (C4 s.l)∧C4N p us E D ⟨A3i b.out (C4 s.l) (H6 us s.l - p.amount),s,b.taken++C4 s.l,b.all+(H6 us s.l - p.amount)⟩ (ls++D1 (H6 us s.l - p.amount) (E2 us (C4 s.l))):=by
 obtain ⟨k1,k2,k3⟩:=h.ok.step hp hu hs hc
 have hok0:MOk us p.parts.length ⟨b.ms.used,b.ms.es,[]⟩:=⟨h.ok.ok.len,h.ok.ok.rng,h.ok.ok.srt,fun x hx=>by simp at hx⟩
 have hok:=MOk.parts hok0 (D5u _) hs
 have htr:=X5.parts (X5.start b.ms.used b.ms.es) hok0 (D5u _) hs
 have hpre:=h.pre.parts hok0 (D5u _) hs
 have hN:E2 us (C4 s.l)=I8 b.out (C4 s.l):=by
  unfold E2 I8
  exact D6D fun x hx=>by rw [h.ok.same _ (htr.free x (T9.1 hx))]
 have hW:=k1.weights
 rw [←hN] at hW
 obtain ⟨a1,a2,a3⟩:=R9 hW
 have hle:=fun {k} (hk:k<(E2 us (C4 s.l)).length)=>A3g hW (by have:=k1.le;rw [←hN] at this;exact this) hk
 have hnl:=A4Q us (C4 s.l)
 have hlf:A3i b.out (C4 s.l) (H6 us s.l - p.amount)=C9 b.out (C4 s.l) (D1 (H6 us s.l - p.amount) (E2 us (C4 s.l))) (D1 (H6 us s.l - p.amount) (E2 us (C4 s.l))).length:=by
  unfold A3i;rw [←hN,a2,hnl]
 have hlen:=h.len
 generalize D1 (H6 us s.l - p.amount) (E2 us (C4 s.l))=X at *
 refine ⟨hN,⟨k2,hpre,?_,?_,?_,?_,?_,?_,?_⟩⟩
 ·show (ls++X).length=(b.taken++C4 s.l).length
  rw [D5x,D5x];omega
 ·show A3i _ _ _=C9 us (b.taken++C4 s.l) (ls++X) (ls++X).length
  rw [hlf,h.out,D5x,A9K h.len.symm X.length (D5u _) (by omega)]
 ·show A2 (ls++X)=_
  rw [F2,h.sum,a1]
 ·refine .inr ?_
  show 0<b.all+(H6 us s.l - p.amount)
  have:=h.ok.off.pos
  omega
 ·intro k hk
  show 0≤gI (ls++X) k∧gI (ls++X) k≤(gU us (gI (b.taken++C4 s.l) k).toNat).net
  by_cases hkl:k<ls.length
  ·rw [N3 hkl,N3 (by omega)];exact h.bnd k hkl
  ·have e:∀ (a b:List Int),a.length=ls.length→gI (a++b) k=gI b (k - ls.length):=fun a b ha=>by
    unfold gI
    rw [D5l,D5l,D5H (by omega),ha]
   rw [D5x] at hk
   rw [e ls X rfl,e b.taken _ hlen.symm]
   refine ⟨a3 _ (A7 (by omega)),?_⟩
   have h9:=hle (k:=k - ls.length) (by omega)
   rw [show gI (E2 us (C4 s.l)) (k - ls.length)=(gU us (gI (C4 s.l) (k - ls.length)).toNat).net from D4 (fun i:Int=>(gU us i.toNat).net) _ (by omega)] at h9
   exact h9
 ·show ((b.taken++C4 s.l).map Int.toNat).Nodup
  rw [D5P]
  refine List.nodup_append.2 ⟨h.nd,((A1f s.l).map Int.toNat).nodup_iff.2 htr.nd,fun x hx y hy e=>?_⟩
  subst e
  obtain ⟨u,hu1,rfl⟩:=D5G.1 hx
  obtain ⟨w,hw1,hw2⟩:=D5G.1 hy
  have f1:=h.used u hu1
  have f2:=htr.free w (T9.1 hw1)
  rw [hw2,f1] at f2;cases f2
 ·intro x hx
  show s.used.getD x.toNat default=true
  rw [htr.used]
  rcases D6B.1 hx with hx | hx
  ·exact .inl (h.used x hx)
  ·exact .inr (D8a (T9.1 hx))
set_option maxHeartbeats 1000000 in
theorem C0Q (p:B1) (us:List B2) (parts:List (List Int)) (hps:A2L p) (hright:H0 p=true) (hk:p.kind=4) (hp:A3U p) (hu:E1 us) (hl:parts.length=p.parts.length) (hm:∀ x∈parts,N6 us x) (st:St) :
  S P 219 [B7 p,C6 us,A6 1 B0 parts] st fun v st'=>v=.tuple [C6 (Q7 p us parts).1,eI (Q7 p us parts).2]∧st'=st:=by
 have hul:=hu.len
 have hn1:=hp.n1
 have hn8:=hp.n8
 have ha:=hp.amt
 have hme:∀ k,k<parts.length→N6 us (parts.getD k default):=fun k hk=>hm _ (A7 hk)
 have hst0:=A5C hu hl (fun k hk=>hme k hk)
 have hD:tot p.parts.length (F3 us parts).ms.es≤800000:=by
  have:=C4p (n:=p.parts.length) (B:=100000) (es:=(F3 us parts).ms.es) (fun i hi=>by
   show (D8 us (parts.getD i [])).length≤100000
   rw [A1N]
   exact D6A (hme i (by omega)).len hul)
  have h8:p.parts.length * 100000≤8 * 100000:=D6n _ hn8
  omega
 refine A2c ?_
 refine F1 [3] Tryz.func219 ?_
 refine Col.apps (q:=C0P) (f:=fun k=>Y4 (gU us k)) rfl rfl rfl rfl (A3O _ _ _ _) (fun i hi=>by rw [D5A]) (by show (0+us.length) * 24≤_;omega) (Col.start _ _ _ st) (fun svS st1 hcS=>?_)
 have hsupS:=hcS.sup
 clear hcS
 conv=>whnf
 refine H8 (A7t p hps hright _) ?_
 rw [show (p.kind != 4)=false from by rw [hk];rfl];conv=>whnf
 rw [show ((parts.length:Int) != (p.parts.length:Int))=false from by rw [hl];simp];conv=>whnf
 refine lp parts.length [1,2,3,8,9,10] (fun i vs s=>∃ sv,vs=[C6 us,A6 1 B0 parts,.fptr (B7 p) 0,svS,sv,eI i]∧E0 29 1 B0 ((parts.take i).map fun m=>(D8 us m).map (·.2)) st1 sv s) ?_ ?_
 ·conv=>whnf
  exact ⟨.emp,rfl,E0.start _ _ _ _⟩
 ·rintro i vs s hi ⟨sv,rfl,hc⟩
  conv=>whnf
  cases hd:decide ((i:Int)<(parts.length:Int))
  case true =>
   have hi':=D9 hd
   have hmi:N6 us (parts.getD (i:Int).toNat default):=by rw [D5y];exact hme i hi'
   conv=>whnf
   refine E4 ?_
   refine H8 (B7Q us _ hu hmi _) ?_
   refine E4 ?_
   refine H8 (B9p us _ hu hmi _) ?_
   refine E0.app (q:=r29) (y:=(D8 us (parts.getD (i:Int).toNat default)).map (·.2)) rfl rfl rfl rfl rfl rfl (by show (_+1) * 24≤140737488355328;rw [D5p,D5v];omega) hc (fun sv' s' hc'=>?_);conv=>whnf
   refine F8 ?_
   exact nx hi' ⟨sv',by rw [B3 (by omega)],by rw [A1D hi'];exact hc'⟩
  obtain rfl:=C5 hd hi
  rw [D5w] at hc
  have hLl:(parts.map fun m=>(D8 us m).map (·.2)).length=parts.length:=D5p ..
  have hLg:∀ k,k<parts.length→(parts.map fun m=>(D8 us m).map (·.2)).getD k default=(D8 us (parts.getD k default)).map (·.2):=fun k hk=>D4 (fun m=>(D8 us m).map (·.2)) parts hk
  generalize (parts.map fun m=>(D8 us m).map (·.2))=L at *
  rcases hc with ⟨h0,_⟩ | ⟨h0,bl,gl,hbl,rfl,rfl,hgl⟩
  ·omega
  conv=>whnf
  refine mkO rfl rfl rfl (by show 1 * us.length≤_;omega) (by omega) (by rfl) (fun bu hbu=>?_)
  have hnlu:bl≠bu:=fun e=>by subst e;rw [A0] at hbu;cases hbu
  have hblS:(upd st1 bl ⟨29,1,L.length,gl⟩) bl=some ⟨29,1,L.length,gl⟩:=A0 ..
  have hsup2:E5 st (upd st1 bl ⟨29,1,L.length,gl⟩):=hsupS.upd hbl
  generalize upd st1 bl ⟨29,1,L.length,gl⟩=st2 at *
  conv=>whnf
  have hwb:∀ Y:L6,(upd st2 bu Y) bl=some ⟨29,1,L.length,gl⟩:=fun Y=>by rw [A9 hnlu];exact hblS
  refine ⟨[1,3,9,11,12,13],fun m vs s=>∃ (b:BSt) (ls:List Int) (sva svl:AV) (gu:Nat→AV) (f:Nat),m=tot p.parts.length b.ms.es∧vs=[C6 us,.fptr (B7 p) 0,.own 1 bl 0 L.length,.own 1 bu 0 us.length,sva,svl] ∧
   C4N p us (fun k=>D8 us (parts.getD k default)) (tot p.parts.length (F3 us parts).ms.es) b ls∧(tot p.parts.length b.ms.es<f∧A3e p us (tot p.parts.length (F3 us parts).ms.es+1) (F3 us parts)=A3e p us f b) ∧
   RA b.taken ls sva svl (upd st2 bu ⟨4,1,us.length,gu⟩) s∧∀ k,k<us.length→gu k=eB (b.ms.used.getD k default),?_,?_⟩
  ·conv=>whnf
   refine ⟨_,F3 us parts,[],.emp,.emp,_,_,rfl,rfl,?_,⟨D8e _,rfl⟩,RA.start _,fun k hk=>?_⟩
   ·refine ⟨hst0,fun k hk=>⟨[],rfl,fun e he=>by cases he⟩,rfl,rfl,rfl,.inl rfl,fun k hk=>absurd hk (by simp),List.nodup_nil,fun x hx=>by simp [F3] at hx⟩
   ·show eB false=eB ((List.replicate us.length false).getD k default)
    simp [D5l,hk]
  ·rintro m vs s ⟨b,ls,sva,svl,gu,f,rfl,rfl,hI,⟨hf1,hF⟩,hR,hgu⟩
   have hok0:MOk us p.parts.length ⟨b.ms.used,b.ms.es,[]⟩:=⟨hI.ok.ok.len,hI.ok.ok.rng,hI.ok.ok.srt,fun x hx=>by simp at hx⟩
   have hBA:=B8H b.taken ls sva svl
   have hsu:=hBA.sup hR
   have hsu1:=hsu bu _ (A0 ..)
   have hsl1:=hsu bl _ (hwb _)
   have hbl2:=hI.ok.len
   obtain ⟨f,rfl⟩:∃ g,f=g+1:=⟨f - 1,by omega⟩
   conv=>whnf
   refine B4 (C7W p hp us hul (fun k=>D8 us (parts.getD k default)) L (by omega) (fun k hk=>hLg k (by omega)) (fun k hk=>⟨by show (D8 _ _).length≤_;rw [A1N];exact D6A (hme k (by omega)).len hul,fun e he=>A6w (hme k (by omega)).rng he⟩) ⟨b.ms.used,b.ms.es,[]⟩ rfl hok0 hI.pre bu gu s bl gl hsl1 hgl hsu1 hgu) ?_
   have fin:A1V p us b=none→∀ t,RA b.taken ls sva svl (upd st2 bu ⟨4,1,us.length,gu⟩) t→∃ t2,A8 [C6 us,sva,svl,eB p.closes] t [C6 us,B0 b.taken,B0 ls,eB p.closes] t2∧E5 st t2 ∧
     S P 255 [C6 us,B0 b.taken,B0 ls,eB p.closes] t2 fun v st'=>v=.tuple [C6 (Q7 p us parts).1,eI (Q7 p us parts).2]∧st'=t2:=fun hno t ht=>by
    obtain ⟨t2,h1,h2⟩:=ht.shift (C6 us) (eB p.closes)
    have hPl:Y9 us b.taken:=B3f hI.ok.mem hI.nd
    have hout:A3e p us (tot p.parts.length (F3 us parts).ms.es+1) (F3 us parts)=b:=by
     rw [hF];unfold A3e;rw [hno]
    have h0s:∀ x∈ls,0≤x:=fun x hx=>by obtain ⟨k,hk,rfl⟩:=D3 hx;exact (hI.bnd k hk).1
    have hE:A2B us b.taken ls p.closes=Q7 p us parts:=by
     unfold Q7 A2B
     simp only
     rw [hout,←hI.sum,hI.out]
     by_cases hz:A2 ls=0
     ·have ht0:b.taken=[]:=by
       rcases hI.pos with e | e
       ·exact e
       ·rw [←hI.sum] at e;omega
      rw [if_pos hz,A2T (A3F h0s hz) _ (D5u _),ht0,hz]
      show (us,(0:Int))=(if p.closes=true then us else us,0)
      split<;>rfl
     ·rw [if_neg hz]
    have hsum:A2 ls≤10000000000000:=by
     have h5:=hI.ok.off.sum
     have:=hu.sum
     have:=C1 (hI.ok.off.ok hu).nets0
     rw [hI.sum];omega
    have hlen:=hI.len
    have htl:b.taken.length≤1000000:=by have:=hI.ok.len;omega
    refine ⟨t2,h1,(hsup2.upd hbu).trans h2,?_⟩
    rw [←hE]
    exact B4q us b.taken ls p.closes hu hPl htl (by omega) hI.bnd (by omega) t2
   cases hs:L2 p.parts p.parts.length ⟨b.ms.used,b.ms.es,[]⟩ with
   | none =>
    have hone:A8Z p ⟨b.ms.used,b.ms.es,[]⟩=[]:=by unfold A8Z;rw [hs]
    obtain ⟨t2,g1,g2,g3⟩:=fin (by unfold A1V;rw [hs]) s hR
    rw [hone];conv=>whnf
    refine H8 (A6G us [] (by simp) (fun k hk=>absurd hk (by simp)) _) ?_
    refine H8 (A9k [] (by simp) (fun x hx=>by cases hx) (by decide) _) ?_
    refine F4 g1 (B4 g3 ?_);conv=>whnf
    exact ⟨rfl,g2⟩
   | some s1 =>
    have hok:=MOk.parts hok0 (D5u _) hs
    have htr:=X5.parts (X5.start b.ms.used b.ms.es) hok0 (D5u _) hs
    have hlen1:=A1P hp (D5u _) hs
    have hpos:=A5R hp hs
    simp only [D6E] at hlen1 hpos
    have hone:A8Z p ⟨b.ms.used,b.ms.es,[]⟩=C4 s1.l:=by unfold A8Z;rw [hs]
    have hcost:A2 (E2 us (C4 s1.l))=H6 us s1.l:=A6M ((A1f s1.l).map fun i:Int=>(gU us i.toNat).net)
    have hcb:=A1j hu s1.l hok.mem
    have hSl:(C4 s1.l).length=s1.l.length:=W8 _
    have hSr:∀ k,k<(C4 s1.l).length→0≤gI (C4 s1.l) k∧(gI (C4 s1.l) k).toNat<us.length:=fun k hk=>hok.mem _ (T9.1 (A7 hk))
    have hnl:=A4Q us (C4 s1.l)
    have hn0:∀ x∈E2 us (C4 s1.l),0≤x:=fun x hx=>by obtain ⟨i,hi,rfl⟩:=D5G.1 hx;exact hu.at0 _
    rw [hone];conv=>whnf
    refine H8 (A6G us (C4 s1.l) (by omega) hSr _) ?_
    refine B4 (A9k _ (by omega) hn0 (by rw [hcost];omega) _) ?_
    rw [hcost];conv=>whnf
    rw [show (((C4 s1.l).length:Int)==0)=false from D7b (by omega)];conv=>whnf
    refine B8 (fun hc=>?_) (fun hc=>?_)<;>rw [hc]
    ·have hc':=D5o hc
     obtain ⟨t2,g1,g2,g3⟩:=fin (by unfold A1V;rw [hs];simp only;rw [if_neg (by omega)]) s hR
     conv=>whnf
     refine F4 g1 (B4 g3 ?_);conv=>whnf
     exact ⟨rfl,g2⟩
    ·have hc':H6 us s1.l>p.amount:=by have:=D5q hc;omega
     obtain ⟨hN,hI2⟩:=hI.step hp hu hs hc'
     obtain ⟨k1,k2,k3⟩:=hI.ok.step hp hu hs hc'
     have hW:=k1.weights
     rw [←hN] at hW
     have hXl:=(R9 hW).2.1
     have hstep:A3e p us (f+1) b=A3e p us f ⟨A3i b.out (C4 s1.l) (H6 us s1.l - p.amount),s1,b.taken++C4 s1.l,b.all+(H6 us s1.l - p.amount)⟩:=by
      conv=>lhs;unfold A3e A1V
      rw [hs];simp only;rw [if_pos hc']
     have w1:IntKind.i64.wrap (H6 us s1.l - p.amount)=H6 us s1.l - p.amount:=A5 (by omega) (by omega)
     have hkl:=k2.len
     simp only at hkl k3
     rw [D5x] at hkl
     have hll:=hI.len
     conv=>whnf
     refine ⟨[],[],List.range 13,by kernel_rfl,?_⟩;conv=>whnf
     refine cqW (A6G us (C4 s1.l) (by omega) hSr _) ?_
     rw [w1]
     refine ⟨_,I5 (A7v _ (E2 us (C4 s1.l)) hW _),?_⟩
     generalize D1 (H6 us s1.l - p.amount) (E2 us (C4 s1.l))=X at *
     conv=>whnf
     refine lp (C4 s1.l).length [1,3,9,11,12,13,14,16,18] (fun i vs s=>∃ (sva svl:AV) (g:Nat→AV),vs=[C6 us,.fptr (B7 p) 0,.own 1 bl 0 L.length,.own 1 bu 0 us.length,sva,svl,B0 (C4 s1.l),B0 X,eI i] ∧
      RA (b.taken++(C4 s1.l).take i) (ls++X.take i) sva svl (upd st2 bu ⟨4,1,us.length,g⟩) s∧∀ k,k<us.length→g k=eB ((A3M b.ms.used ((C4 s1.l).take i)).getD k default)) ?_ ?_
     ·conv=>whnf
      exact ⟨sva,svl,gu,rfl,by rw [D7d,D7d,D7f,D7f];exact hR,hgu⟩
     ·clear hR hgu fin hsu hsu1 hsl1 hBA
      rintro i vs s hi ⟨sva,svl,g,rfl,hR,hg⟩
      have hBA:=B8H (b.taken++(C4 s1.l).take i) (ls++X.take i) sva svl
      conv=>whnf
      cases hd:decide ((i:Int)<((C4 s1.l).length:Int))
      ·obtain rfl:=C5 hd hi
       rw [D5w] at hR hg
       rw [D7p (show X.length≤(C4 s1.l).length by omega)] at hR;conv=>whnf
       refine F8 ?_
       refine ⟨tot p.parts.length s1.es,k3,_,_,sva,svl,g,f,rfl,rfl,hI2,⟨by show tot p.parts.length s1.es<f;omega,by rw [←hstep];exact hF⟩,hR,fun k hk=>?_⟩
       rw [hg k hk]
       congr 1
       show (A3M b.ms.used (C4 s1.l)).getD k default=s1.used.getD k default
       rw [←D7u,B7Z (fun x hx=>by rw [hI.ok.ok.len];exact (hok.mem x (T9.1 hx)).2),htr.used]
       constructor
       ·rintro (h | h)
        ·exact .inl h
        ·obtain ⟨y,hy,rfl⟩:=D5G.1 h;exact .inr (D8a (T9.1 hy))
       ·rintro (h | h)
        ·exact .inl h
        ·obtain ⟨y,hy,rfl⟩:=D5G.1 h;exact .inr (D8a (T9.2 hy))
      ·have hi':=D9 hd
       have hr:=hSr i hi'
       have hg2:=hBA.sup hR bu _ (A0 ..)
       have tk:∀ (l:List Int),i<l.length→l.take (i+1)=l.take i++[gI l i]:=fun l h=>K1 h
       conv=>whnf
       refine E4 ?_
       refine ⟨rfl,⟨by show 0≤gI (C4 s1.l) i;omega,by show gI (C4 s1.l) i<(us.length:Int);omega⟩,?_⟩;conv=>whnf
       refine stV hg2 rfl (by show 0+(gI (C4 s1.l) i).toNat<us.length;omega) (v:=eB ((A3M b.ms.used ((C4 s1.l).take i)).getD (gI (C4 s1.l) i).toNat default)) (by show g (0+(gI (C4 s1.l) i).toNat)=_;rw [D5A];exact hg _ hr.2) (by rfl) ?_
       have hR2:=hBA.write (y':=⟨4,1,us.length,H7 g (0+(gI (C4 s1.l) i).toNat) (eB true)⟩) hR (A0 ..)
       rw [B6] at hR2
       have hgn:∀ k,k<us.length→H7 g (0+(gI (C4 s1.l) i).toNat) (eB true) k=eB ((A3M b.ms.used ((C4 s1.l).take (i+1))).getD k default):=fun k hk=>by
        have e:A3M b.ms.used ((C4 s1.l).take (i+1))=(A3M b.ms.used ((C4 s1.l).take i)).set (gI (C4 s1.l) i).toNat true:=I6 hi' _ _
        rw [e,D5A,A6c (by rw [B8a,hI.ok.ok.len];exact hr.2)]
        by_cases ej:k=(gI (C4 s1.l) i).toNat
        ·rw [if_pos ej,ej,A4]
        ·rw [if_neg ej,H3 ej];exact hg k hk
       conv=>whnf
       refine ⟨[4,5,6,11,12,13],[],[],.qui 0 (.qui 1 (.qui 2 (.qui 3 (.qui 7 (.qui 8 (.qui 9 (.qui 10 (.two 4 11 (.two 5 11 (.two 6 11 (.gen 11 (.gen 12 (.gen 13 (.qui 14 (.qui 15 .done))))) (.two 6 12 (.gen 12 (.gen 13 (.qui 14 (.qui 15 .done)))) (.gen 6 (.gen 13 (.qui 14 (.qui 15 .done)))))) (.two 5 12 (.two 6 12 (.gen 12 (.gen 13 (.qui 14 (.qui 15 .done)))) (.gen 6 (.gen 13 (.qui 14 (.qui 15 .done))))) (.gen 5 (.gen 6 (.gen 13 (.qui 14 (.qui 15 .done))))))) (.two 4 12 (.two 5 12 (.two 6 12 (.gen 12 (.gen 13 (.qui 14 (.qui 15 .done)))) (.gen 6 (.gen 13 (.qui 14 (.qui 15 .done))))) (.gen 5 (.gen 6 (.gen 13 (.qui 14 (.qui 15 .done)))))) (.gen 4 (.gen 5 (.gen 6 (.gen 13 (.qui 14 (.qui 15 .done))))))))))))))),by kernel_rfl,?_⟩;conv=>whnf
       refine E4 ?_
       refine E4 ?_
       repeat' (refine And.intro ?_ ?_<;>(conv=>whnf))
       all_goals refine RA.appA (all:=b.taken++(C4 s1.l).take i) (ls:=ls++X.take i) (y:=gI (C4 s1.l) i) hR2 rfl rfl (by rw [D5x,D5v];omega) (fun sva' t' hR3=>?_)
       all_goals (conv=>whnf)
       all_goals refine RA.appL (all:=b.taken++(C4 s1.l).take i++[gI (C4 s1.l) i]) (ls:=ls++X.take i) (y:=gI X i) hR3 rfl rfl (by rw [D5x,D5v];omega) (fun svl' t'' hR4=>?_)
       all_goals (conv=>whnf)
       all_goals refine ⟨rfl,?_⟩
       all_goals (conv=>whnf)
       all_goals exact nx hi' ⟨sva',svl',H7 g (0+(gI (C4 s1.l) i).toNat) (eB true),by rw [B3 (by omega)],by rw [tk _ hi',tk _ (by omega),←D6M,←D6M];exact hR4,hgn⟩
def A0y (l:List Int):List Int:=l.foldl (fun a x=>if x∈a then a else a++[x]) []
theorem B7E (l:List Int) (x:Int):A0y (l++[x])=if x∈A0y l then A0y l else A0y l++[x]:=by
 unfold A0y;rw [D7n];rfl
theorem B1h (l:List Int):(A0y l).Nodup∧∀ x,x∈A0y l↔x∈l:=by
 have:∀ (l a:List Int),a.Nodup→(l.foldl (fun a x=>if x∈a then a else a++[x]) a).Nodup∧∀ x,x∈l.foldl (fun a x=>if x∈a then a else a++[x]) a↔x∈a∨x∈l:=by
  intro l
  induction l with
  | nil=>intro a h;exact ⟨h,fun x=>by simp⟩
  | cons y l ih =>
   intro a h
   rw [D6C]
   split
   ·rename_i hy
    obtain ⟨h1,h2⟩:=ih a h
    refine ⟨h1,fun x=>?_⟩
    rw [h2,D6U]
    constructor
    ·rintro (h3 | h3)
     ·exact .inl h3
     ·exact .inr (.inr h3)
    ·rintro (h3 | rfl | h3)
     ·exact .inl h3
     ·exact .inl hy
     ·exact .inr h3
   ·rename_i hy
    obtain ⟨h1,h2⟩:=ih (a++[y]) (List.nodup_append.2 ⟨h,by simp,fun p hp q hq e=>by rw [D5Q] at hq;subst hq;subst e;exact hy hp⟩)
    refine ⟨h1,fun x=>?_⟩
    rw [h2,D6B,D5Q,D6U,or_assoc]
 obtain ⟨h1,h2⟩:=this l [] List.nodup_nil
 exact ⟨h1,fun x=>by rw [show x∈A0y l↔x∈([]:List Int)∨x∈l from h2 x];simp⟩
theorem B5f (l:List Int):W9 l=((List.range l.length).filter fun k=>k==0||gI l k != gI l (k - 1)).map (gI l):=by
 unfold W9 Go.Lib.compactUpTo
 have hg:∀ k,k<l.length→l.toArray[k]! = gI l k:=fun k hk=>by rw [getElem!_pos _ k (by simpa using hk)];simp [gI,hk]
 have hf:(List.range l.length).filter (Go.Lib.keeps l.toArray)=(List.range l.length).filter fun k=>k==0||gI l k != gI l (k - 1):=by
  refine List.filter_congr fun k hk=>?_
  have:=D5B.1 hk
  unfold Go.Lib.keeps
  rw [hg k this,hg (k - 1) (by omega)]
  rw [←D7u,D5n,D6t,D6k,D7X]
 rw [hf]
 exact D6D fun k hk=>hg k (D5B.1 (D6o.1 hk).1)
theorem B6X {l:List Int} (hs:l.Pairwise (·≤·)):(W9 l).Nodup∧∀ x,x∈W9 l↔x∈l:=by
 refine ⟨?_,fun x=>⟨B2N,fun hx=>?_⟩⟩
 ·rw [B5f]
  refine List.Pairwise.map _ (fun a b h=>h) ?_ 
  refine List.Pairwise.imp_of_mem (R:=(·<·)) ?_ ((List.pairwise_lt_range (n:=l.length)).filter _)
  intro a b ha hb hab
  obtain ⟨h1,h2⟩:=D6o.1 hb
  have h3:=D5B.1 h1
  rw [D6t,D6k,D7X] at h2
  have h4:gI l (b - 1)≤gI l b:=B3h hs (by omega) h3
  have h5:gI l a≤gI l (b - 1):=by
   rcases D8o (show a≤b - 1 by omega) with e | e
   ·rw [e];exact D5W _
   ·exact B3h hs e (by omega)
  show gI l a≠gI l b
  rcases h2 with h2 | h2<;>omega
 ·rw [B5f,D5G]
  obtain ⟨k,hk,rfl⟩:=D3 hx
  induction k with
  | zero=>exact ⟨0,D6o.2 ⟨D5B.2 hk,rfl⟩,rfl⟩
  | succ k ih =>
   by_cases e:gI l (k+1)=gI l k
   ·have:=ih (by omega) (by rw [show l.getD k default=l.getD (k+1) default from e.symm];exact hx)
    obtain ⟨j,h1,h2⟩:=this
    exact ⟨j,h1,h2.trans e.symm⟩
   ·exact ⟨k+1,D6o.2 ⟨D5B.2 hk,by rw [D6t,D7X];exact .inr e⟩,rfl⟩
theorem C2Y (us:List B2) (l:List Int):A1H us (W9 (C4 l))=A1H us (A0y l):=by
 obtain ⟨h1,h2⟩:=B6X (B6r l)
 obtain ⟨h3,h4⟩:=B1h l
 have hp:(W9 (C4 l)).Perm (A0y l):=(List.perm_ext_iff_of_nodup h1 h3).2 fun x=>by rw [h2,h4,T9]
 exact A6M (hp.map _)
theorem C0C (l:List Int):(A0y l).length≤l.length:=by
 have:∀ (l a:List Int),(l.foldl (fun a x=>if x∈a then a else a++[x]) a).length≤a.length+l.length:=by
  intro l
  induction l with
  | nil=>intro a;simp
  | cons y l ih =>
   intro a
   rw [D6C]
   split
   ·have:=ih a;rw [D5Y];omega
   ·have:=ih (a++[y]);rw [D5x,D5Y,D6E] at this;rw [D5Y];omega
 have h:=this l []
 rw [D6E,D5A] at h;exact h
structure PSm (p:B1):Prop where
 sm:A2L p
 right:H0 p=true
 fit:Q2 p
set_option maxHeartbeats 400000 in
theorem C7V (items:List Ab.Item) (us:List B2) (pr:B1) (hp:PSm pr) (hk:pr.kind≠7) (hu:A6Q items us) (st:St) :
  S P 164 [B7 pr,C6 us,A6 4 E3 items] st fun v st'=>(∃ x,v=.tuple [C6 x,eI (Z7 items us pr).2]∧(0<(Z7 items us pr).2→x=(Z7 items us pr).1))∧st'=st:=by
 have ok:=A3B hp.right
 have hul:=hu.ok.len
 have hB:=ok.bun
 by_cases h4:pr.kind=4
 ·have hW:Z7 items us pr=A0S items us pr:=by unfold Z7;rw [if_pos h4]
  rw [hW]
  obtain ⟨hbn,hbs⟩:=hB h4
  have hn8:=hbn.n8
  have hpl:(Q4 items us pr).length=pr.parts.length:=D5p ..
  have hbP:A0S items us pr=if A1H us (A0y (A0m items us pr pr.parts.length))<pr.least then ([],0) else Q7 pr us (Q4 items us pr):=by unfold A0S;rw [C2Y]
  refine A2c ?_
  refine F1 [3] Tryz.func164 ?_
  rw [show (pr.kind != 4)=false from by rw [h4];rfl];conv=>whnf
  refine mkO rfl rfl rfl (by show 1 * us.length≤_;omega) (by omega) (by rfl) (fun bs hbs0=>?_);conv=>whnf
  refine lp pr.parts.length [1,2,3,9,10,11,12] (fun i vs s=>∃ sv g,vs=[C6 us,A6 4 E3 items,.fptr (B7 pr) 0,sv,.own 1 bs 0 us.length,eI (A1H us (A0y (A0m items us pr i))),eI i]∧E0 29 1 B0 ((Q4 items us pr).take i) (upd st bs ⟨4,1,us.length,g⟩) sv s∧∀ k,k<us.length→g k=eB (decide ((k:Int)∈A0m items us pr i))) ?_ ?_
  ·conv=>whnf
   exact ⟨.emp,_,rfl,E0.start _ _ _ _,fun k hk=>by rw [show A0m items us pr 0=[] from rfl];simp;rfl⟩
  ·rintro i vs s hi ⟨sv,g,rfl,hc,hg⟩
   conv=>whnf
   cases hd:decide ((i:Int)<(pr.parts.length:Int))
   ·obtain rfl:=C5 hd hi
    rw [←hpl,D5w] at hc;conv=>whnf
    refine B8 (fun h1=>?_) (fun h1=>?_)<;>rw [h1]
    ·have:=D5o h1
     rw [if_pos (by omega)] at hbP;conv=>whnf
     exact ⟨⟨us,by rw [hbP];rfl,fun h=>by rw [hbP] at h;exact absurd h (by decide)⟩,((E5.refl st).upd hbs0).trans hc.sup⟩
    ·have:=D5q h1
     rw [if_neg (by omega)] at hbP;conv=>whnf
     refine F4 (A8.cons (t:=s) (A8.keep _ _) (A8.cons (t:=s) (A8.keep _ _) hc.shift)) (B4 (C0Q pr us (Q4 items us pr) hp.sm hp.right h4 hbn hu.ok hpl (fun x hx=>by obtain ⟨q,_,rfl⟩:=D5G.1 hx;exact A1v _ _ _) _) ?_);conv=>whnf
     exact ⟨⟨_,by rw [hbP];rfl,fun _=>by rw [hbP]⟩,(E5.refl st).upd hbs0⟩
   ·have hi':=D9 hd
    have hsc:(pr.parts.getD (i:Int).toNat default).scope.skus.length≤20∧(pr.parts.getD (i:Int).toNat default).scope.cats.length≤20:=hbs _ (A7 hi')
    have hsu:=A8J items us pr hi'
    have hAl:=B0z items us pr i hi
    have hAm:=fun {x} (hx:x∈A0m items us pr i)=>B0A hx
    have hml:=A2V (pr.parts.getD (i:Int).toNat default).scope items us us.length
    have hmo:=A1v (pr.parts.getD (i:Int).toNat default).scope items us
    have hpt:(Q4 items us pr).take (i+1)=(Q4 items us pr).take i++[J7 (pr.parts.getD (i:Int).toNat default).scope items us us.length]:=by
     rw [K1 (by omega)];congr 2
     exact D4 (fun x:A2b=>J7 x.scope items us us.length) pr.parts hi'
    rw [show J7 (pr.parts.getD i default).scope items us us.length=J7 (pr.parts.getD (i:Int).toNat default).scope items us us.length from rfl] at hsu
    have h8:i * us.length≤7 * 100000:=Nat.mul_le_mul (by omega) hul
    conv=>whnf
    refine E4 ?_
    refine B4 (B9q us items (pr.parts.getD (i:Int).toNat default).scope (by omega) (by omega) hul hu.line _) ?_
    generalize J7 (pr.parts.getD (i:Int).toNat default).scope items us us.length=m at *
    conv=>whnf
    refine E0.app (q:=r29) (y:=m) rfl rfl rfl rfl rfl rfl (by show (_+1) * 24≤140737488355328;rw [D5v];omega) hc (fun sv s hc=>?_)
    rw [←hpt] at hc;conv=>whnf
    refine lp m.length [1,2,3,9,10,11,12,13,14] (fun k vs s=>∃ g,vs=[C6 us,A6 4 E3 items,.fptr (B7 pr) 0,sv,.own 1 bs 0 us.length,eI (A1H us (A0y (A0m items us pr i++m.take k))),eI i,B0 m,eI k]∧E0 29 1 B0 ((Q4 items us pr).take (i+1)) (upd st bs ⟨4,1,us.length,g⟩) sv s∧∀ j,j<us.length→g j=eB (decide ((j:Int)∈A0m items us pr i++m.take k))) ?_ ?_
    ·conv=>whnf
     exact ⟨g,by rw [D7d,D7f];rfl,hc,by rw [D7d,D7f];exact hg⟩
    ·clear hc hg
     rintro k vs s hk ⟨g,rfl,hc,hg⟩
     conv=>whnf
     cases hd2:decide ((k:Int)<(m.length:Int))
     ·obtain rfl:=C5 hd2 hk
      rw [D5w,←hsu] at hg;conv=>whnf
      refine F8 ?_
      exact nx hi' ⟨sv,g,by rw [B3 (by omega),D5w,←hsu],hc,hg⟩
     ·have hk':=D9 hd2
      have hr:0≤m.getD (k:Int).toNat default∧(m.getD (k:Int).toNat default).toNat<us.length:=hmo.rng k hk'
      have hbk:=hc.sup bs _ (A0 ..)
      have hP:A0m items us pr i++m.take (k+1)=(A0m items us pr i++m.take k)++[m.getD (k:Int).toNat default]:=by rw [K1 hk',D6M];rfl
      have hgk:g (0+(m.getD (k:Int).toNat default).toNat)=eB (decide (m.getD (k:Int).toNat default∈A0m items us pr i++m.take k)):=by
       rw [D5A,hg _ hr.2];congr 2;rw [D7c hr.1]
      have hmem:∀ x∈A0m items us pr i++m.take k,0≤x∧x.toNat<us.length:=fun x hx=>by
       rcases D6B.1 hx with hx | hx
       ·exact B0A hx
       ·obtain ⟨j,hj,rfl⟩:=D3 (D6p _ _ hx);exact hmo.rng j hj
      obtain ⟨o1,o2⟩:=B1h (A0m items us pr i++m.take k)
      have hcb:=A1j hu.ok (A0y (A0m items us pr i++m.take k)) (fun x hx=>hmem x ((o2 x).1 hx))
      have hol:=C0C (A0m items us pr i++m.take k)
      rw [D5x,D5v] at hol
      have hcl:A1H us (A0y (A0m items us pr i++m.take k))=H6 us (A0y (A0m items us pr i++m.take k)):=rfl
      have hsn:=B7E (A0m items us pr i++m.take k) (m.getD (k:Int).toNat default)
      have hdm:decide (m.getD (k:Int).toNat default∈A0y (A0m items us pr i++m.take k))=decide (m.getD (k:Int).toNat default∈A0m items us pr i++m.take k):=D7a.2 (o2 _)
      have hn0:0≤(gU us (m.getD (k:Int).toNat default).toNat).net:=hu.ok.at0 _
      have hn1:(gU us (m.getD (k:Int).toNat default).toNat).net≤10000000000000:=hu.ok.le (A7 hr.2)
      generalize A0m items us pr i++m.take k=A at *
      conv=>whnf
      refine E4 ?_
      refine E4 ?_
      refine I1 hbk hgk ?_
      refine B8 (fun h5=>?_) (fun h5=>?_)<;>rw [h5]
      ·have hnot:¬ m.getD (k:Int).toNat default∈A:=by simpa using h5
       rw [if_neg (fun h=>hnot ((o2 _).1 h))] at hsn
       have hadd:A1H us (A0y (A++[m.getD (k:Int).toNat default]))=A1H us (A0y A)+(gU us (m.getD (k:Int).toNat default).toNat).net:=by
        rw [hsn];exact B2P us _ _
       have w:IntKind.i64.wrap (A1H us (A0y A)+(gU us (m.getD (k:Int).toNat default).toNat).net)=A1H us (A0y (A++[m.getD (k:Int).toNat default])):=by rw [hadd];exact A5 (by omega) (by omega)
       conv=>whnf
       refine E4 ?_
       refine E4 ?_
       refine stU hbk hgk ?_
       have hc2:=Col.write hc (y':=⟨4,1,us.length,H7 g (0+(m.getD (k:Int).toNat default).toNat) (eB true)⟩) (A0 ..)
       rw [B6] at hc2;conv=>whnf
       refine E4 ?_
       refine E4 ?_
       refine F8 ?_
       refine nx hk' ⟨H7 g (0+(m.getD (k:Int).toNat default).toNat) (eB true),by rw [B3 (by omega),hP,←w],hc2,fun j hj=>?_⟩
       rw [hP,D5A]
       by_cases ej:j=(m.getD (k:Int).toNat default).toNat
       ·rw [ej,A4,D5U (by rw [D6B,D5Q];right;omega)]
       ·rw [H3 ej,hg j hj]
        congr 1
        refine D7a.2 ?_
        rw [D6B,D5Q]
        exact ⟨.inl,fun h=>h.resolve_right (by omega)⟩
      ·have hin:m.getD (k:Int).toNat default∈A:=by simpa using h5
       rw [if_pos ((o2 _).2 hin)] at hsn;conv=>whnf
       refine F8 ?_
       refine nx hk' ⟨g,by rw [B3 (by omega),hP,hsn],hc,fun j hj=>?_⟩
       rw [hP,hg j hj]
       congr 1
       refine D7a.2 ?_
       rw [D6B,D5Q]
       exact ⟨.inl,fun h=>h.elim id (fun e=>by rw [e];exact hin)⟩
 ·have hW:Z7 items us pr=A1Y items us pr:=by unfold Z7;rw [if_neg h4]
  have hmo:=A1v pr.scope items us
  have hml:=A2V pr.scope items us us.length
  have hS:A1Y items us pr=if A1H us (J7 pr.scope items us us.length)<pr.least then ([],0) else if pr.kind=3 then V0 pr us (J7 pr.scope items us us.length) else Z0 pr us (J7 pr.scope items us us.length):=rfl
  obtain ⟨hn0,hns⟩:=B1f hu.ok hmo
  rw [hW]
  refine F1 [3] Tryz.func164 ?_
  rw [show (pr.kind != 4)=true from D7X.2 h4];conv=>whnf
  refine B4 (B9q us items pr.scope (by have:=ok.skus;omega) (by have:=ok.cats;omega) hul hu.line _) ?_
  generalize J7 pr.scope items us us.length=m at *
  conv=>whnf
  refine ⟨[],[],List.range 7,by kernel_rfl,?_⟩;conv=>whnf
  refine cqW (A6G us m (by omega) hmo.rng _) ?_
  refine cqW (A9k (E2 us m) (by rw [A4Q];omega) hn0 (by omega) _) ?_
  refine B8 (fun h1=>?_) (fun h1=>?_)<;>rw [h1]
  ·have h2:A1H us m<pr.least:=D5o h1
   rw [if_pos h2] at hS;conv=>whnf
   exact ⟨⟨us,by rw [hS];rfl,fun h=>by rw [hS] at h;exact absurd h (by decide)⟩,rfl⟩
  ·have h2:¬ A1H us m<pr.least:=fun h=>absurd h (Int.not_lt.2 (Int.not_lt.1 (D5q h1)))
   rw [if_neg h2] at hS;conv=>whnf
   by_cases h3:pr.kind=3
   ·rw [if_pos h3] at hS
    rw [show (pr.kind==3)=true from D6k.2 h3];conv=>whnf
    refine H8 (C0R pr us m hp.sm hp.right h3 (ok.buy h3) hu.ok hmo _) ?_
    exact ⟨⟨_,by rw [hS];rfl,fun _=>by rw [hS]⟩,rfl⟩
   ·rw [if_neg h3] at hS
    rw [show (pr.kind==3)=false from D7b h3];conv=>whnf
    refine H8 (C3x pr us m (ok.ask hp.fit (by have:=ok.kind;omega)) hp.sm hu.ok hmo _) ?_
    exact ⟨⟨_,by rw [hS];rfl,fun _=>by rw [hS]⟩,rfl⟩
theorem B6i (L:List C8) (g:C8) (hl:L.length≤1000) (sv:AV) (st:St) (h:(sv=.emp∧L=[])∨∃ b f,sv=.own 1 b 0 L.length∧st b=some ⟨9,1,L.length,f⟩∧∀ k,k<L.length→f k=eS (L.getD k default)) :
  S P 163 [sv,eS g] st fun v st'=>v=.bool (!N0 g&&L.any fun y=>y.toList==g.toList)∧st'=st:=by
 rcases h with ⟨rfl,rfl⟩ | ⟨b,f,rfl,hb,hf⟩
 ·refine F1 [] Tryz.func163 ?_
  refine B1g [0,1,5] ?_;conv=>whnf
  intro I;conv=>whnf
  exact ⟨by simp [A9U],rfl⟩
 ·refine F1 [] Tryz.func163 ?_
  refine lp L.length [0,1,5] (fun i vs s=>(∀ k,k<i→(!N0 g&&((L.getD k default).toList==g.toList))=false)∧vs=[.own 1 b 0 L.length,eS g,eI i]∧s=st) ?_ ?_
  ·conv=>whnf
   exact ⟨fun k hk=>absurd hk (by omega),rfl,rfl⟩
  ·rintro i vs st' hi ⟨hok,rfl,rfl⟩
   conv=>whnf
   cases hd:decide ((i:Int)<(L.length:Int))
   ·obtain rfl:=C5 hd hi
    conv=>whnf
    refine ⟨?_,rfl⟩
    have e:(!N0 g&&L.any fun y=>y.toList==g.toList)=false:=by
     cases hn:N0 g
     ·rw [D5S,D5C]
      refine D6r.2 fun x hx=>?_
      obtain ⟨k,hk,rfl⟩:=D3 hx
      have:=hok k hk
      rw [hn,D5S,D5C] at this
      rw [this];simp
     ·rfl
    rw [e];rfl
   ·have hi':=D9 hd
    have hfi:f (0+(i:Int).toNat)=eS (L.getD (i:Int).toNat default):=by rw [D5A];exact hf _ (by omega)
    have yes:=fun h=>H4 hok (i:=i) h
    have nl:N0 g=(g.toList==(⟨#[]⟩:C8).toList):=rfl
    conv=>whnf
    refine B8 (fun h1=>?_) (fun h1=>?_)<;>rw [h1]
    ·have hn:N0 g=false:=by rw [nl];simpa using h1
     conv=>whnf
     refine E4 ?_
     refine I1 hb hfi ?_
     refine B8 (fun h2=>?_) (fun h2=>?_)<;>rw [h2]
     ·conv=>whnf
      refine ⟨?_,rfl⟩
      rw [hn,D6Q.2 ⟨_,A7 hi',h2⟩];rfl
     ·conv=>whnf
      refine F8 ?_
      exact nx hi' ⟨yes (by rw [hn];exact h2),by rw [B3 (by omega)],rfl⟩
    ·have hn:N0 g=true:=by rw [nl];simpa using h1
     conv=>whnf
     refine F8 ?_
     exact nx hi' ⟨yes (by rw [hn];rfl),by rw [B3 (by omega)],rfl⟩
structure B4S (l:List B1):Prop where
 few:l.length≤60
 right:∀ p∈l,H0 p=true
 ids:∀ i j,i<j→j<l.length→((l.getD i default).id.toList==(l.getD j default).id.toList)=false
theorem B1u {l:List B1} (h:promosC l=true):B4S l:=by
 unfold promosC L0 at h
 simp only [D5r,D5n,D5I,D5B] at h
 obtain ⟨h1,h2⟩:=h
 refine ⟨by omega,fun p hp=>?_,fun i j hij hj=>?_⟩
 ·obtain ⟨k,hk,rfl⟩:=D3 hp
  have:=h2 k hk
  unfold V6 at this
  rw [D5r] at this;exact this.1
 ·have:=h2 j hj
  unfold V6 at this
  rw [D5r,D5F,D6r] at this
  have h3:=this.2 (l.getD i default) (by
   have:(l.take j).getD i default=l.getD i default:=by rw [D5l,D5l,D5z hij]
   rw [←this]
   exact A7 (by rw [D5v];omega))
  simpa using h3
theorem B1t {l:List B1} {i:Nat} (hi:i<l.length) (h:V6 l i (l.getD i default)=false):promosC l=false:=by
 unfold promosC
 rw [D7t]
 refine .inr (D6Z.2 fun ha=>?_)
 unfold L0 at ha
 rw [D5I] at ha
 have:=ha i (D5B.2 hi)
 rw [this] at h;cases h
theorem C0S (l:List B1) (hn:l.length<9223372036854775807) (hs:∀ p∈l,A2L p) (st:St):S P 134 [A6 15 B7 l] st fun v st'=>v=.bool (promosC l)∧st'=st:=by
 refine F1 [] Tryz.func134 ?_
 refine lp l.length [0,3] (fun i vs st'=>vs=[A6 15 B7 l,eI i]∧st'=st∧∀ k,k<i→V6 l k (l.getD k default)=true) ?_ ?_
 ·conv=>whnf
  exact ⟨rfl,rfl,fun k hk=>absurd hk (by omega)⟩
 ·rintro i vs st' hi ⟨rfl,rfl,hok⟩
  conv=>whnf
  cases h:decide ((i:Int)<(l.length:Int))
  ·obtain rfl:=C5 h hi
   conv=>whnf
   refine ⟨?_,rfl⟩
   show AV.bool _=AV.bool _
   unfold promosC
   rw [K6 hok,D6g]
  ·have hi':=D9 h
   have hm:l.getD (i:Int).toNat default∈l:=A7 hi'
   conv=>whnf
   refine E4 ?_
   refine B4 (B5Z (l.getD (i:Int).toNat default) (hs _ hm) _) ?_
   obtain ⟨b,hb⟩:∃ b,b=H0 (l.getD (i:Int).toNat default):=⟨_,rfl⟩
   rw [←hb];conv=>whnf
   refine B8 (fun h1=>?_) (fun h1=>?_)<;>rw [h1]
   ·conv=>whnf
    refine ⟨?_,rfl⟩
    have:promosC l=false:=B1t hi' (by
     unfold V6
     rw [show H0 (l.getD i default)=false by rw [show i=(i:Int).toNat from rfl,←hb];simpa using h1];rfl)
    rw [this];rfl
   have hp:H0 (l.getD i default)=true:=by rw [show i=(i:Int).toNat from rfl,←hb];simpa using h1
   conv=>whnf
   refine lp i [0,3,4] (fun j vs s=>vs=[A6 15 B7 l,eI i,eI j]∧s=st'∧∀ k,k<j→((l.getD k default).id.toList==(l.getD i default).id.toList)=false) ?_ ?_
   ·conv=>whnf
    exact ⟨rfl,rfl,fun k hk=>absurd hk (by omega)⟩
   ·rintro j vs s hj ⟨rfl,rfl,hne⟩
    conv=>whnf
    cases h2:decide ((j:Int)<(i:Int))
    ·obtain rfl:=C5 h2 hj
     conv=>whnf
     refine F8 ?_
     refine nx hi' ⟨by rw [B3 (by omega)],rfl,fun k hk=>?_⟩
     by_cases e:k<j
     ·exact hok k e
     ·obtain rfl:k=j:=by omega
      unfold V6
      rw [hp,D5C,D5F,D6r]
      intro x hx
      obtain ⟨m,hm',rfl⟩:=D3 hx
      rw [D5v] at hm'
      have e2:(l.take k).getD m default=l.getD m default:=by rw [D5l,D5l,D5z (by omega)]
      rw [e2,hne m (by omega)];exact Bool.false_ne_true
    ·have hj':=D9 h2
     conv=>whnf
     refine ⟨[],[],List.range 11,by kernel_rfl,?_⟩;conv=>whnf
     refine E4 ?_
     refine E4 ?_
     refine B8 (fun h3=>?_) (fun h3=>?_)<;>rw [h3]
     ·conv=>whnf
      refine ⟨?_,rfl⟩
      have h4:((l.getD j default).id.toList==(l.getD i default).id.toList)=true:=h3
      have:promosC l=false:=B1t hi' (by
       unfold V6
       rw [hp,D5C,D5T]
       refine D6Q.2 ⟨l.getD j default,?_,h4⟩
       have e2:(l.take i).getD j default=l.getD j default:=by rw [D5l,D5l,D5z (by omega)]
       rw [←e2]
       exact A7 (by rw [D5v];omega))
      rw [this];rfl
     have h4:((l.getD j default).id.toList==(l.getD i default).id.toList)=false:=h3
     conv=>whnf
     refine F8 ?_
     exact nx hj' ⟨by rw [B3 (by omega)],rfl,fun k hk=>by
      by_cases e:k<j
      ·exact hne k e
      ·obtain rfl:k=j:=by omega
       exact h4⟩
structure A7I (r:G6):Prop where
 n:Sm r.items.length
 items:∀ x∈r.items,Sm x.sku.size∧Sm x.cat.size
 promos:∀ p∈r.promos,A2L p
 tax:B2D r.tax
 order:Sm r.policy.order.length
 credit:Sm r.policy.credit.length
theorem C3D (r:G6) (hn:r.promos.length<9223372036854775807) (hs:A7I r) (st:St):S P 81 [G9 r] st fun v st'=>v=.bool (U6 r)∧st'=st:=by
 obtain ⟨H,hH⟩:∃ H:Bool,H=U6 r:=⟨_,rfl⟩
 rw [←hH]
 unfold U6 A9G A6D at hH
 have n1:=C3A r.items hs.n hs.items st
 have n2:=C0S r.promos hn hs.promos st
 have n3:=C3E r.tax hs.tax st
 have n4:=A2D r.ship.fee 1000000000 st
 have n5:=A2D r.ship.free 10000000000000 st
 have n6:=A2D r.policy.window 100000 st
 have n7:=A2D r.policy.grace 100000 st
 have n8:=A2D r.policy.restock 10000 st
 have n9:=B6g r.policy.order hs.order st
 have n10:=B6g r.policy.credit hs.credit st
 generalize A1t r.items=b1 at *
 generalize promosC r.promos=b2 at *
 generalize taxC r.tax=b3 at *
 generalize O6 0 1000000000 r.ship.fee=b4 at *
 generalize O6 0 10000000000000 r.ship.free=b5 at *
 generalize O6 0 100000 r.policy.window=b6 at *
 generalize O6 0 100000 r.policy.grace=b7 at *
 generalize O6 0 10000 r.policy.restock=b8 at *
 generalize A1a r.policy.order=b9 at *
 generalize A1a r.policy.credit=b10 at *
 refine SyW [1,3] Tryz.func81 ?_
 repeat' ((conv=>whnf);first | refine B4 n1 ?_ | refine B4 n2 ?_ | refine B4 n3 ?_ | refine B4 n4 ?_ | refine B4 n5 ?_ | refine B4 n6 ?_ | refine B4 n7 ?_ | refine B4 n8 ?_ | refine B4 n9 ?_ | refine B4 n10 ?_ | (refine B8 (fun h=>?_) (fun h=>?_)<;>rw [h]))
 all_goals (conv=>whnf)
 all_goals (refine ⟨?_,rfl⟩;show AV.bool _=AV.bool _;congr 1;clear n1 n2 n3 n4 n5 n6 n7 n8 n9 n10)
 all_goals (simp only [*,D5C,D5K,D6g,D5R,D6c,D6d,D6f,D5Z,D6a,D5S,D6F])
theorem B7R (r:G6) (hs:A7I r) (hC:U6 r=true) (st:St):S P 81 [G9 r] st fun v st'=>v=.bool true∧st'=st:=by
 have h:=C3D r (by
  unfold U6 at hC
  simp only [D5r] at hC
  have:=(B1u hC.1.1.1.2).few;omega) hs st
 rw [hC] at h;exact h
theorem C3z (l:List C8) (hl:Sm l.length) (hs:∀ s∈l,Sm s.size) (st:St):S P 75 [C7 l] st fun v st'=>v=.bool (S4 l)∧st'=st:=by
 have e:S4 l=(A0H l&&decide ((l.length:Int)≤4)):=by
  unfold S4 A0H
  generalize decide ((l.length:Int)≤4)=a
  generalize A0f l=b
  generalize (l.any fun s=>!D2 s)=c
  cases a<;>cases b<;>cases c<;>rfl
 rw [e]
 refine F1 [] Tryz.func75 ?_
 refine H8 (B1I l 4 hl hs st) ?_
 exact ⟨rfl,rfl⟩
def U1 (l:List B1) (codes:List C8):List Int:=(places l codes l.length).mergeSort fun x y=>!A0C (E7 l y) (E7 l x)
theorem A4i (l:List B1) (codes:List C8):(U1 l codes).Perm (places l codes l.length):=D7Z ..
theorem C3h (l:List B1) (codes:List C8):(U1 l codes).Pairwise (A3V l):=by
 have:=D7E (le:=fun x y:Int=>!A0C (E7 l y) (E7 l x)) (fun a b c h1 h2=>by simp only [D5F] at *;exact A8e h1 h2) (fun a b=>by
  cases h:A0C (E7 l b) (E7 l a) with
  | false=>rfl
  | true=>rw [A9r h];rfl) (places l codes l.length)
 exact this.imp (fun h=>by simpa [A3V] using h)
theorem B7M {l:List B1} (ok:B4S l) {x y:Int} (hx:0≤x∧x.toNat<l.length) (hy:0≤y∧y.toNat<l.length) (h1:A3V l x y) (h2:A3V l y x):x=y:=by
 unfold A3V at h1 h2
 rw [←D6m,A3c] at h1 h2
 have e:(E7 l x).prio=(E7 l y).prio:=by
  have a:¬(E7 l y).prio>(E7 l x).prio:=fun h=>h1 (.inl h)
  have b:¬(E7 l x).prio>(E7 l y).prio:=fun h=>h2 (.inl h)
  omega
 have a:slt (E7 l y).id (E7 l x).id=false:=by rw [←D6m];exact fun h=>h1 (.inr ⟨e.symm,h⟩)
 have b:slt (E7 l x).id (E7 l y).id=false:=by rw [←D6m];exact fun h=>h2 (.inr ⟨e,h⟩)
 have c:=A6K a b
 rcases Nat.lt_trichotomy x.toNat y.toNat with h | h | h
 ·have:=ok.ids _ _ h hy.2
  rw [D5X] at this
  exact absurd c.symm this
 ·omega
 ·have:=ok.ids _ _ h hx.2
  rw [D5X] at this
  exact absurd c this
theorem B5C {l:List B1} (hC:promosC l=true) {codes:List C8} {o:List Int} (h1:o.Perm (places l codes l.length)) (h2:o.Pairwise (A3V l)):o=U1 l codes:=by
 refine (h1.trans (A4i l codes).symm).eq_of_pairwise (le:=A3V l) (fun a b ha hb h3 h4=>?_) h2 (C3h l codes)
 exact B7M (B1u hC) (A0v (h1.mem_iff.1 ha)) (A0v ((A4i l codes).mem_iff.1 hb)) h3 h4
theorem C0Z (l:List B1) (codes:List C8) (hC:promosC l=true) (hc:Sm codes.length) (st:St):S P 162 [A6 15 B7 l,C7 codes] st fun v st'=>v=B0 (U1 l codes)∧st'=st :=
 (C3J l codes (by have:=(B1u hC).few;omega) hc st).mono fun v st' ⟨⟨o,h1,h2,h3⟩,h4⟩=>⟨by rw [h3,B5C hC h1 h2],h4⟩
theorem B6f {l:List B1} (hC:promosC l=true) {codes:List C8} {o:List Int} (ho:A8D l codes o):P2 l o=U1 l codes:=by
 refine B5C hC ((B3j l o).trans ho.1) ?_
 refine List.Pairwise.map _ (fun a b h=>h) (R:=fun a b:QE=>A3V l (gI o a.2.toNat) (gI o b.2.toNat)) ?_
 refine (A6Z l o).imp_of_mem fun {a b} ha hb h=>?_
 have h1:=A4V ha
 have h2:=A4V hb
 obtain ⟨i,hi,rfl⟩:=D5G.1 ((A1m l o).mem_iff.1 ha)
 obtain ⟨j,hj,rfl⟩:=D5G.1 ((A1m l o).mem_iff.1 hb)
 rw [R3] at h
 simp only [B1C,D5y] at h h1 h2 ⊢
 unfold A3V
 rw [←D6m,A3c]
 rintro (h3 | ⟨h3,h4⟩)
 ·exact h (.inl h3)
 ·rcases Nat.lt_trichotomy i j with e | e | e
  ·have:=ho.2 i j (D5L _) e h2.2
   unfold C5s at this
   rw [this] at h4;cases h4
  ·subst e;rw [A4X] at h4;cases h4
  ·exact h (.inr ⟨h3,by omega⟩)
def C6P (l:List A2p):Int:=if (l.all tenderB&&decide ((l.length:Int)≤6))=true then A2g l else 0
def C2J (o:U0):Bool:=D2 o.id&&D2 o.zone&&(decide (o.rules≥1)&&decide (o.rules≤40))&&S4 o.codes&&O6 0 100000 o.day&&(decide ((o.lines.length:Int)≥1)&&decide ((o.lines.length:Int)≤1000))
theorem C0D (o:U0):A2v o=(C2J o&&o.lines.all A2A&&A1p o&&(A5B o.book&&(Z6 o.book==o.net)&&(o.tenders.all tenderB&&decide ((o.tenders.length:Int)≤6))&&(C6P o.tenders==o.net))):=by
 have e:A2v o=(decide ((o.tenders.length:Int)≤6)&&A9A o&&A4O o&&A1p o&&A5A o&&A0h o):=rfl
 have h1:A9A o=(D2 o.id&&D2 o.zone&&(decide (o.rules≥1)&&decide (o.rules≤40))&&S4 o.codes&&O6 0 100000 o.day):=rfl
 rw [e,h1]
 unfold A4O A5A A0h C2J C6P
 generalize decide ((o.tenders.length:Int)≤6)=a1
 generalize o.tenders.all tenderB=a2
 generalize o.lines.all A2A=a3
 generalize A1p o=a4
 generalize A5B o.book=a5
 generalize (Z6 o.book==o.net)=a6
 generalize decide ((o.lines.length:Int)≥1)=a7
 generalize decide ((o.lines.length:Int)≤1000)=a8
 generalize (D2 o.id&&D2 o.zone&&(decide (o.rules≥1)&&decide (o.rules≤40))&&S4 o.codes&&O6 0 100000 o.day)=a9
 cases a1<;>cases a2<;>simp only [D6g,D5R,D5C,D5K,if_true]<;>generalize (A2g o.tenders==o.net)=b<;>cases a3<;>cases a4<;>cases a5<;>cases a6<;>cases a7<;>cases a8<;>cases a9<;>cases b<;>rfl
theorem C0v {t k:Int} (ht:0≤t∧t≤10000000000000) (hk:0≤k∧k≤100000):0≤t * k∧t * k≤1000000000000000000:=by
 refine ⟨D6K ht.1 hk.1,?_⟩
 have h1:t * k≤10000000000000 * k:=D7j ht.2 hk.1
 omega
theorem C4q (t n k:Int) (ht:0≤t∧t≤10000000000000) (hn:1≤n∧n≤100000) (hk:0≤k∧k≤n) (st:St):S P 65 [eI t,eI n,eI k] st fun v st'=>v=.tuple [eI (A0k t n k),eI 0]∧st'=st:=by
 have n1:=A4P t st
 rw [show K4 t=true from E6.2 ⟨by omega,by omega⟩] at n1
 have g1:decide (n<1)=false:=D5t (by omega)
 have g2:decide (n>100000)=false:=D5t (by omega)
 have g3:decide (k<0)=false:=D5t (by omega)
 have g4:decide (k>n)=false:=D5t (by omega)
 have w1:IntKind.u64.wrap t=t:=B5 (by omega) (by omega)
 have w2:IntKind.u64.wrap k=k:=B5 (by omega) (by omega)
 have w3:IntKind.u64.wrap n=n:=B5 (by omega) (by omega)
 have hm:=C0v ht (k:=k) ⟨hk.1,by omega⟩
 have w4:IntKind.u64.wrap (t * k)=t * k:=B5 hm.1 (by omega)
 have hu:=A8z ht.1 hn.1 hk.1 hk.2
 have w5:IntKind.u64.wrap ((t * k).tdiv n)=A0k t n k:=by rw [D6G hm.1];exact B5 (x:=A0k t n k) hu.1 (by omega)
 have w6:IntKind.i64.wrap (A0k t n k)=A0k t n k:=A5 (by omega) (by omega)
 refine SyW [] Tryz.func65 ?_
 repeat' ((conv=>whnf);first | refine B4 n1 ?_ | rw [g1] | rw [g2] | rw [g3] | rw [g4])
 conv=>whnf
 rw [w3,D5t (show ¬ n=0 by omega)];conv=>whnf
 rw [w1,w2,w4,w5,w6]
 exact ⟨rfl,rfl⟩
def A7n (x:A2Z):E8:=⟨x.sku,x.left,x.price⟩
theorem C3I (o:U0) (hl:o.lines.length≤100000) (st:St):S P 51 [U4 o] st fun v st'=>v=A6 3 I0 (C0q o)∧st'=st:=by
 refine A0A (ty:=137) ?_
 refine F1 [1,5] Tryz.func51 ?_
 refine lp o.lines.length [3,7,8,9] (fun i vs s=>∃ sv,vs=[sv,A6 6 Z3 o.lines,eI o.lines.length,eI i]∧E0 137 3 I0 ((o.lines.take i).map A7n) st sv s) ?_ ?_
 ·conv=>whnf
  exact ⟨.emp,rfl,E0.start _ _ _ _⟩
 rintro i vs s hi ⟨sv,rfl,hc⟩
 conv=>whnf
 cases h:decide ((i:Int)<(o.lines.length:Int))
 ·obtain rfl:=C5 h hi
  rw [D5w] at hc;conv=>whnf
  exact hc
 have hi':=D9 h
 have hln:((o.lines.take i).map A7n).length=i:=by rw [D5p,D5v];omega
 have htk:(o.lines.take (i+1)).map A7n=(o.lines.take i).map A7n++[A7n (o.lines.getD (i:Int).toNat default)]:=A1D hi' A7n
 conv=>whnf
 refine E4 ?_
 refine E0.app (q:=C3w) (y:=A7n (o.lines.getD (i:Int).toNat default)) rfl rfl rfl rfl rfl rfl (by rw [hln];show (i+1) * 32≤140737488355328;omega) hc (fun sv' s' hc'=>?_);conv=>whnf
 refine F8 ?_
 exact nx hi' ⟨sv',by rw [B3 (by omega)],by rw [htk];exact hc'⟩
def A8K (o:U0) (i:Nat):A5k:=⟨shG (o.lines.take i),shT (o.lines.take i),if T2 (o.lines.take i)=true then o.ship else 0,if T2 (o.lines.take i)=true then o.shipTax else 0,0⟩
theorem B3E {l:List A2Z} {i:Nat} (hi:i<l.length):T2 (l.take (i+1))=(T2 (l.take i)||decide ((l.getD i default).left>0)):=by
 unfold T2;rw [K1 hi,List.any_append];simp
theorem C1f {l:List A2Z} (hl:l.length≤1000) (hk:∀ x∈l,A2A x=true) (i:Nat):(0≤shG (l.take i)∧shG (l.take i)≤10000000000000000)∧(0≤shT (l.take i)∧shT (l.take i)≤10000000000000000):=by
 have hln:(l.take i).length≤1000:=by rw [D5v];omega
 have a:=B1j (f:=fun x:A2Z=>A0k x.goods x.sold x.left) (M:=10000000000000) (by decide) (l.take i) (fun x hx=>by
  obtain ⟨_,_,h1,h2,h3,_⟩:=B0S (hk x (D6p _ _ hx))
  have:=A8z h3.1 h1.1 h2.1 h2.2
  exact ⟨this.1,by omega⟩) 0
 have b:=B1j (f:=fun x:A2Z=>A0k x.tax x.sold x.left) (M:=10000000000000) (by decide) (l.take i) (fun x hx=>by
  obtain ⟨_,_,h1,h2,_,h3⟩:=B0S (hk x (D6p _ _ hx))
  have:=A8z h3.1 h1.1 h2.1 h2.2
  exact ⟨this.1,by omega⟩) 0
 unfold shG shT
 exact ⟨⟨by omega,by omega⟩,by omega,by omega⟩
set_option maxHeartbeats 2000000 in
theorem B3k (o:U0) (hs:B2C o) (st:St):S P 18 [U4 o] st fun v st'=>v=A5E (A6I o)∧st'=st:=by
 have n1:=fun s=>B1B o hs s
 have hB:A6I o=if A2v o=true then A8K o o.lines.length else ⟨0,0,0,0,0⟩:=by
  unfold A6I A8K;rw [D5w]
 have hO:A2v o=true→o.lines.length≤1000∧∀ x∈o.lines,A2A x=true:=fun h=>by
  rw [C0D] at h
  unfold C2J at h
  simp only [D5r,D5n,D5I] at h
  exact ⟨by omega,h.1.1.2⟩
 generalize A2v o=b at *
 refine A2c ?_
 refine B6N [1,5] C0k mixed Tryz.func18 (by rfl) rfl rfl rfl ?_;conv=>whnf
 intro b2 hb2;conv=>whnf
 intro b3 hb3
 have h23:b2≠b3:=fun e=>by subst e;rw [A0] at hb3;cases hb3
 have hs2:E5 st (upd st b2 ⟨47,5,1,fun _=>H1 r47.zero⟩):=(E5.refl st).upd hb2
 have hb3':st b3=none:=hs2.none hb3
 conv=>whnf
 refine B4 (n1 _) ?_
 cases b
 ·rw [if_neg (by simp)] at hB
  rw [hB];conv=>whnf
  refine I1 (A0 ..) rfl ?_
  refine X1 (by rw [A9 h23];exact A0 ..) rfl ?_
  refine I1 (A0 ..) (A4 ..) ?_
  exact ⟨rfl,((hs2.upd hb3).over hb2)⟩
 rw [if_pos rfl] at hB
 obtain ⟨hl,hk⟩:=hO rfl
 rw [hB]
 clear hB n1 hO
 conv=>whnf
 refine lp o.lines.length [1,2,3,15,16,17] (fun i vs s=>vs=[.fptr (U4 o) 0,.optr 5 b2 0 0,.optr 5 b3 0 0,A6 6 Z3 o.lines,eI o.lines.length,eI i]∧∃ f3,s=upd (upd st b2 ⟨47,5,1,fun _=>H1 r47.zero⟩) b3 ⟨47,5,1,f3⟩∧f3 0=A5E (A8K o i)) ?_ ?_
 ·conv=>whnf
  exact ⟨rfl,_,rfl,rfl⟩
 rintro i vs s hi ⟨rfl,f3,rfl,hf3⟩
 conv=>whnf
 cases h:decide ((i:Int)<(o.lines.length:Int))
 ·obtain rfl:=C5 h hi
  generalize A8K o o.lines.length=Z at *
  conv=>whnf
  refine I1 (A0 ..) hf3 ?_
  refine X1 (by rw [A9 h23];exact A0 ..) rfl ?_
  refine I1 (A0 ..) (A4 ..) ?_
  exact ⟨rfl,((hs2.upd hb3).over hb2)⟩
 have hi':=D9 h
 have hkx:=B0S (hk (o.lines.getD (i:Int).toNat default) (A7 hi'))
 obtain ⟨-,-,k1,k2,k3,k4⟩:=hkx
 have c1:=fun s=>C4q (o.lines.getD (i:Int).toNat default).goods (o.lines.getD (i:Int).toNat default).sold (o.lines.getD (i:Int).toNat default).left k3 k1 k2 s
 have c2:=fun s=>C4q (o.lines.getD (i:Int).toNat default).tax (o.lines.getD (i:Int).toNat default).sold (o.lines.getD (i:Int).toNat default).left k4 k1 k2 s
 have hin:=C1f hl hk i
 have u1:=A8z k3.1 k1.1 k2.1 k2.2
 have u2:=A8z k4.1 k1.1 k2.1 k2.2
 have sg:shG (o.lines.take (i+1))=shG (o.lines.take i)+A0k (o.lines.getD (i:Int).toNat default).goods (o.lines.getD (i:Int).toNat default).sold (o.lines.getD (i:Int).toNat default).left:=I6 hi' _ _
 have stt:shT (o.lines.take (i+1))=shT (o.lines.take i)+A0k (o.lines.getD (i:Int).toNat default).tax (o.lines.getD (i:Int).toNat default).sold (o.lines.getD (i:Int).toNat default).left:=I6 hi' _ _
 have sa:T2 (o.lines.take (i+1))=(T2 (o.lines.take i)||decide ((o.lines.getD (i:Int).toNat default).left>0)):=B3E hi'
 have w1:IntKind.i64.wrap (shG (o.lines.take i)+A0k (o.lines.getD (i:Int).toNat default).goods (o.lines.getD (i:Int).toNat default).sold (o.lines.getD (i:Int).toNat default).left)=shG (o.lines.take (i+1)):=by rw [sg];exact A5 (by omega) (by omega)
 have w2:IntKind.i64.wrap (shT (o.lines.take i)+A0k (o.lines.getD (i:Int).toNat default).tax (o.lines.getD (i:Int).toNat default).sold (o.lines.getD (i:Int).toNat default).left)=shT (o.lines.take (i+1)):=by rw [stt];exact A5 (by omega) (by omega)
 have hN:A8K o (i+1)=⟨shG (o.lines.take (i+1)),shT (o.lines.take (i+1)),if T2 (o.lines.take (i+1))=true then o.ship else 0,if T2 (o.lines.take (i+1))=true then o.shipTax else 0,0⟩:=rfl
 have hZ:A8K o i=⟨shG (o.lines.take i),shT (o.lines.take i),if T2 (o.lines.take i)=true then o.ship else 0,if T2 (o.lines.take i)=true then o.shipTax else 0,0⟩:=rfl
 rw [sa] at hN
 rw [hZ] at hf3
 generalize shG (o.lines.take (i+1))=G1 at *
 generalize shT (o.lines.take (i+1))=T1 at *
 generalize shG (o.lines.take i)=G0 at *
 generalize shT (o.lines.take i)=T0 at *
 generalize T2 (o.lines.take i)=a0 at *
 generalize A0k (o.lines.getD (i:Int).toNat default).goods (o.lines.getD (i:Int).toNat default).sold (o.lines.getD (i:Int).toNat default).left=Y1 at *
 generalize A0k (o.lines.getD (i:Int).toNat default).tax (o.lines.getD (i:Int).toNat default).sold (o.lines.getD (i:Int).toNat default).left=Y2 at *
 clear hin u1 u2 sg stt sa hZ
 conv=>whnf
 refine E4 ?_
 refine H8 (c1 _) ?_
 refine H8 (c2 _) ?_
 refine I1 (A0 ..) hf3 ?_
 rw [w1]
 refine stU (A0 ..) hf3 ?_
 rw [B6];conv=>whnf
 refine I1 (A0 ..) (A4 ..) ?_
 rw [w2]
 refine stU (A0 ..) (A4 ..) ?_
 rw [B6];conv=>whnf
 refine B8 (fun h5=>?_) (fun h5=>?_)<;>rw [h5] at hN ⊢
 ·rw [D6c] at hN;conv=>whnf
  refine .inr ⟨[5,7],.qui 0 (.qui 1 (.qui 2 (.qui 3 (.qui 4 (.eff 5 [3] (.qui 6 (.eff 7 [] (.done)))))))),by kernel_rfl,?_⟩;conv=>whnf
  refine ⟨_,fun _=>True,trivial,fun s _=>⟨rfl,rfl⟩,?_⟩;conv=>whnf
  refine ⟨_,fun _=>True,trivial,fun s _=>⟨rfl,rfl⟩,?_⟩;conv=>whnf
  refine stU (A0 ..) (A4 ..) ?_
  rw [B6];conv=>whnf
  refine ⟨fun _=>trivial,?_⟩;conv=>whnf
  refine stU (A0 ..) (A4 ..) ?_
  rw [B6];conv=>whnf
  refine F8 ?_
  exact nx hi' ⟨by rw [B3 (by omega)],_,rfl,by rw [A4,hN];rfl⟩
 ·rw [D6d] at hN;conv=>whnf
  refine F8 ?_
  exact nx hi' ⟨by rw [B3 (by omega)],_,rfl,by rw [A4,hN];rfl⟩
def aqZ:K2:=⟨⟨#[122]⟩,[],1000,0⟩
def aqI:List Ab.Item:=[⟨⟨#[97]⟩,⟨#[120]⟩,50,false⟩]
def aqR:G6:=⟨aqI,[],⟨false,false,0,[aqZ]⟩,⟨0,0⟩,⟨0,0,1,0,[],[]⟩⟩
def aqL:List E8:=[⟨⟨#[97]⟩,2,50⟩]
def aqA:List Add:=[⟨⟨#[97]⟩,2⟩]
def aqQ:A1I:=⟨[100],[10],0,0,110,[]⟩
theorem C2g:W1 aqI aqA=(aqL,0):=by kernel_rfl
theorem C2e:D7 aqR [] aqL=0:=by kernel_rfl
theorem C2h:Z1 aqR aqL [] []=⟨[100],100,0,[]⟩:=by kernel_rfl
theorem C2f:A0J aqR:=⟨D5L _,fun p hp=>absurd hp D6R,by show 0<_;decide,by show 0<_;decide⟩
theorem B6e {codes:List C8} {o:List Int} (ho:A8D [] codes o):P2 [] o=[]:=List.perm_nil.1 ((B3j [] o).trans ho.1)
theorem B9N (st:St):S P 122 [G9 aqR,C7 [],A6 3 I0 aqL] st fun v st'=>v=.tuple [A0T ⟨[100],100,0,[]⟩,eI 0]∧st'=st :=
 (price_S B6t aqR [] aqL C2f (by decide) (by decide) (by decide) st).mono fun v s hv=>by
  obtain ⟨hv,rfl⟩:=hv
  refine ⟨?_,rfl⟩
  rcases hv with ⟨h,_⟩ | ⟨_,o1,o2,h1,h2,h3⟩
  ·exact absurd C2e h
  ·rw [show aqR.promos=[] from rfl] at h1 h2 h3
   rw [B6e h1,B6e h2,C2h] at h3
   exact h3
theorem B3F:A2o aqR.tax aqZ (M9 aqR aqL) [100] 0:=by
 refine ⟨by kernel_rfl,by kernel_rfl,by kernel_rfl,⟨by decide,fun x hx=>?_,by decide⟩,by decide⟩
 rw [D5Q.1 hx];decide
theorem B9O (st:St):S P 60 [G9 aqR,eS ⟨#[122]⟩,eB false,C7 [],A6 3 I0 aqL] st fun v st'=>v=.tuple [A0E aqQ,eI 0]∧st'=st:=by
 have hI:∀ st,S P 123 [A6 4 E3 aqR.items,A6 3 I0 aqL] st fun v s=>v=A6 4 E3 (C2 aqR.items aqL)∧s=st:=fun st=>A8V _ _ (by decide) (by decide) (fun x hx=>by rw [D5Q.1 hx];kernel_rfl) st
 have h:=quote_S (r:=aqR) (codes:=[]) (l:=aqL) (Pr:=⟨[100],100,0,[]⟩) (z:=aqZ) (zone:=⟨#[122]⟩) false B9N hI (by decide) B3F (by kernel_rfl) (fun st=>B5d aqR.tax _ _ (by decide) (by kernel_rfl) (fun x hx=>(A3o B3F).2 x hx) st) (B2Z B3F false) st
 rw [show A9j aqR aqZ false aqL ⟨[100],100,0,[]⟩=aqQ by kernel_rfl] at h
 exact h
theorem B6V (l:List C8) (hl:l.length≤100000) (st:St):S P 62 [A6 1 eS l] st fun v st'=>E0 9 1 eS l st v st':=by
 refine SyW [] Tryz.func62 ?_
 cases l with
 | nil =>
  conv=>whnf
  refine ⟨?_,?_⟩
  ·conv=>whnf
   exact Col.start _ _ _ _
  ·conv=>whnf
   refine apE rfl rfl rfl rfl rfl (by show 0 * 16≤_;omega) (fun _=>?_) (fun h=>absurd h (by show ¬ 0<0;omega));conv=>whnf
   exact Col.start _ _ _ _
 | cons u us =>
  conv=>whnf
  refine Col.apps (n:=0) (m:=us.length+1) (q:=r9) (f:=fun k=>eS ((u::us).getD k default)) rfl rfl rfl rfl rfl (fun i hi=>by rw [D5A]) (by show (0+(us.length+1)) * 16≤140737488355328;simp only [D5Y] at hl;omega) (Col.start _ _ _ _) (fun sv' st'' hc'=>?_);conv=>whnf
  rw [D5A] at hc'
  exact hc'
theorem A9v (l:List C8) (hl:l.length≤100000) (st:St):S P 62 [A6 1 eS l] st fun v st'=>v=A6 1 eS l∧st'=st:=A0A (B6V l hl st)
end Go.Proofs.YtaapofnkmpiknaaGreat
