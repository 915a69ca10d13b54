/- Part 28 of the proof: contracts of the functions that the law reaches -/
import Derived.Test.YtaapofnkmpiknaaGreatRs27
set_option maxRecDepth 100000
set_option linter.unusedVariables false
set_option linter.unusedSimpArgs false
namespace Go.Proofs.YtaapofnkmpiknaaGreat
open Go Go.Ab
attribute [local irreducible] upd del
def B3b (p:B1) (us:List B2) (D:List Int) (m i:Nat):Int:=if ((i % m:Nat):Int)≥p.buy then J7 (gU us (gI D i).toNat).net p.rate else 0
def I6 (p:B1) (us:List B2) (D:List Int) (m n:Nat):List Int:=(List.range n).map (B3b p us D m)
theorem B7Q {us:List B2} {i:Nat} (h:i<us.length):less1 us i 0=us:=by
 unfold less1
 refine D8l (by simp) fun j h1 h2=>?_
 rw [List.getElem_set]
 split
 ·rename_i e;subst e
  have e:gU us i=us[i]:=by unfold gU;rw [D5C,D5K h];rfl
  rw [e,Int.sub_zero]
 ·rfl
theorem C5F (d:List QE) {k:Nat} (h:k<d.length):gI (d.map (·.2)) k=(at_ d k).2:=D4 (fun e:QE=>e.2) d h
theorem B6E {p:B1} {us:List B2} {d:List QE} {m:Nat} (hP:Z8 us (d.map (·.2))) {n:Nat} (hn:n≤d.length) {s:Nat} (hs:s % m=0) (hsm:s+m≤n):∀ k,k≤m →
  A0Z p (D1 us (d.map (·.2)) (I6 p us (d.map (·.2)) m n) s) (d.drop s) k=(D1 us (d.map (·.2)) (I6 p us (d.map (·.2)) m n) (s+k),A2 ((I6 p us (d.map (·.2)) m n).take (s+k)) - A2 ((I6 p us (d.map (·.2)) m n).take s))
 | 0,_=>by unfold A0Z;rw [D7W,Int.sub_self]
 | k+1,hk=>by
  have ih:=B6E (p:=p) hP hn hs hsm k (by omega)
  have hln:(I6 p us (d.map (·.2)) m n).length=n:=by unfold I6;simp
  have hml:(d.map (·.2)).length=d.length:=D5H ..
  have hrg:=hP.rng (s+k) (by omega)
  have hat:=A3O (offs:=I6 p us (d.map (·.2)) m n) hP (show s+k<(d.map (·.2)).length by omega)
  have he:gI (I6 p us (d.map (·.2)) m n) (s+k)=if (k:Int)<p.buy then 0 else J7 (gU us (gI (d.map (·.2)) (s+k)).toNat).net p.rate:=by
   unfold I6
   rw [M9 _ (by omega)]
   unfold B3b
   rw [show (s+k) % m=k by rw [Nat.add_mod,hs,D5R,Nat.mod_mod,D8E (by omega)]]
   split<;>split<;>first | rfl | omega
  have hdr:at_ (d.drop s) k=at_ d (s+k):=by unfold at_;rw [D5C,D5C,D7n]
  have hts:=L1 (l:=I6 p us (d.map (·.2)) m n) (i:=s+k) (by omega)
  rw [←D8n]
  unfold A0Z
  rw [ih,hts,he,hdr,←C5F d (by omega)]
  split
  ·rw [D7Q]
   show _=(less1 _ _ _,_)
   rw [he,if_pos (by assumption),B7Q (by rw [Q0];exact hrg.2)]
  ·show _=(less1 _ _ _,_)
   rw [he,if_neg (by assumption),hat]
   congr 1
   show _ - _+_=_
   omega
theorem B9f {p:B1} {us:List B2} {d:List QE} {m:Nat} (hP:Z8 us (d.map (·.2))) {q:Nat} (hn:q * m≤d.length):∀ r,r≤q →
  bgF p us d m r=(D1 us (d.map (·.2)) (I6 p us (d.map (·.2)) m (q * m)) (r * m),A2 ((I6 p us (d.map (·.2)) m (q * m)).take (r * m)))
 | 0,_=>by rw [Nat.zero_mul];rfl
 | r+1,hr=>by
  have ih:=B9f (p:=p) hP hn r (by omega)
  have e:(r+1) * m=r * m+m:=Nat.succ_mul r m
  have h1:r * m+m≤q * m:=by rw [←e];exact D6F m hr
  have h2:=B6E (p:=p) hP hn (s:=r * m) (Nat.mul_mod_left ..) h1 m (D5L _)
  unfold bgF
  rw [ih]
  simp only
  rw [h2,e]
  congr 1
  show _+(_ - _)=_
  omega
theorem B5C {us:List B2} {mine:List Int} (hm:N9 us mine):Z8 us ((D9 us mine).map (·.2)):=by
 have hp:((D9 us mine).map (·.2)).Perm mine:=by
  refine ((A3m us mine).map _).trans (List.Perm.of_eq ?_)
  rw [D8d]
  exact (D6V fun x _=>rfl).trans (List.map_id mine)
 have hnd:mine.Pairwise (·≠·):=by
  rw [D7m]
  intro i j hi hj hij
  have:=hm.lt i j hij hj
  simp only [gI,D5C,D5K hi,D5K hj,Option.getD_some] at this
  omega
 have hr:∀ k,k<((D9 us mine).map (·.2)).length→0≤gI ((D9 us mine).map (·.2)) k∧(gI ((D9 us mine).map (·.2)) k).toNat<us.length:=fun k hk=>A8t (P:=fun x=>0≤x∧x.toNat<us.length) hp (fun x hx=>by obtain ⟨j,hj,rfl⟩:=D3 hx;exact hm.rng j hj) hk
 refine ⟨hr,fun i k hik hk=>?_⟩
 have h1:=(hp.symm.pairwise hnd (fun h=>h.symm))
 have:=B3y h1 hik hk
 have:=hr i (by omega)
 have:=hr k hk
 omega
theorem Z8.take {us:List B2} {l:List Int} (h:Z8 us l) (n:Nat):Z8 us (l.take n):=by
 have e:∀ k,k<(l.take n).length→gI (l.take n) k=gI l k∧k<l.length:=fun k hk=>by
  rw [D5M] at hk
  unfold gI
  rw [D5C,D5C,D5Q (by omega)]
  exact ⟨rfl,by omega⟩
 exact ⟨fun k hk=>by rw [(e k hk).1];exact h.rng k (e k hk).2,fun i k hik hk=>by rw [(e k hk).1,(e i (by omega)).1];exact h.ne i k hik (e k hk).2⟩
theorem A8J {us:List B2} {l offs:List Int} {n:Nat}:∀ k,k≤n→D1 us (l.take n) offs k=D1 us l offs k
 | 0,_=>rfl
 | k+1,hk=>by
  unfold D1
  rw [A8J k (by omega)]
  congr 1
  unfold gI;rw [D5C,D5C,D5Q (by omega)]
set_option maxHeartbeats 400000 in
theorem C1o (p:B1) (us:List B2) (mine:List Int) (hps:A2T p) (hright:G9 p=true) (hk:p.kind=3) (hp:B0B p) (hu:E1 us) (hm:N9 us mine) (st:St) :
  S P 217 [B7 p,C6 us,B0 mine] st fun v st'=>v=.tuple [C6 (W5 p us mine).1,eI (W5 p us mine).2]∧st'=st:=by
 have hB:=hp.buy
 have hG:=hp.get
 have hml:=hm.len
 have hul:=hu.len
 have hdl:((D9 us mine).map (·.2)).length=mine.length:=by rw [D5H,A1Y]
 have hP:=B5C hm
 obtain ⟨m,hm1⟩:∃ m:Nat,(m:Int)=p.buy+p.get:=⟨(p.buy+p.get).toNat,by omega⟩
 have w1:IntKind.i64.wrap (p.buy+p.get)=(m:Int):=by rw [A5 (by omega) (by omega)];omega
 have hq0:mine.length / m * m≤mine.length:=Nat.div_mul_le_self ..
 have hbg:=B9f (p:=p) (m:=m) hP (q:=mine.length / m) (by rw [A1Y];exact hq0) _ (D5L _)
 have hout:W5 p us mine=(if (decide (A2 (I6 p us ((D9 us mine).map (·.2)) m (mine.length / m * m))>0)&&p.closes)=true then closeB (D1 us ((D9 us mine).map (·.2)) (I6 p us ((D9 us mine).map (·.2)) m (mine.length / m * m)) (mine.length / m * m)) (((D9 us mine).map (·.2)).take (mine.length / m * m)) else D1 us ((D9 us mine).map (·.2)) (I6 p us ((D9 us mine).map (·.2)) m (mine.length / m * m)) (mine.length / m * m),A2 (I6 p us ((D9 us mine).map (·.2)) m (mine.length / m * m))):=by
  have hl:(I6 p us ((D9 us mine).map (·.2)) m (mine.length / m * m)).length=mine.length / m * m:=by unfold I6;simp
  unfold W5
  simp only
  rw [show (p.buy+p.get).toNat=m by omega,A1Y,hbg]
  simp only
  rw [show (I6 p us ((D9 us mine).map (·.2)) m (mine.length / m * m)).take (mine.length / m * m)=I6 p us ((D9 us mine).map (·.2)) m (mine.length / m * m) from D7w (by omega),List.map_take]
 refine F2 [3] Tryz.func217 ?_
 refine I5 (A7E p hps hright st) ?_
 rw [show (p.kind != 3)=false from by rw [hk];rfl];conv=>whnf
 refine I5 (B8p us mine hu hm st) ?_
 refine B3 (B9J us mine hu hm st) ?_
 clear hbg
 generalize (D9 us mine).map (·.2)=D at *
 conv=>whnf
 rw [w1,D5J (show ¬(m:Int)=0 by omega)];conv=>whnf
 have hN:IntKind.i64.wrap ((D.length:Int) - (D.length:Int).tmod (m:Int))=((mine.length / m * m:Nat):Int):=by
  rw [hdl,D7q (by omega),←Int.natCast_emod]
  have:=Nat.div_add_mod mine.length m
  rw [Nat.mul_comm] at this
  rw [A5 (by omega) (by omega)];omega
 rw [hN]
 generalize hNe:mine.length / m * m=N at *
 refine ⟨rfl,⟨by omega,by omega,by omega⟩,?_⟩;conv=>whnf
 refine lp N [1,3,8,9,10,11] (fun i vs s=>∃ sv,vs=[C6 us,.fptr (B7 p) 0,.arr 1 N (fun i=>eI (D.getD ((0:Int).toNat+i) default)),eI m,sv,eI i]∧E0 2 1 eI (I6 p us D m i) st sv s) ?_ ?_
 ·conv=>whnf
  exact ⟨.emp,rfl,E0.start _ _ _ _⟩
 ·rintro i vs s hi ⟨sv,rfl,hc⟩
  conv=>whnf
  cases hd:decide ((i:Int)<(N:Int))
  ·obtain rfl:=C4 hd hi
   have hln:(I6 p us D m i).length=i:=by unfold I6;simp
   have hb0:∀ k,k<(I6 p us D m i).length→0≤gI (I6 p us D m i) k∧gI (I6 p us D m i) k≤(gU us (gI (D.take i) k).toNat).net:=fun k hk=>by
    have e:gI (D.take i) k=gI D k:=by unfold gI;rw [D5C,D5C,D5Q (by omega)]
    rw [e]
    unfold I6
    rw [M9 _ (by omega)]
    unfold B3b
    have h9:=hu.at0 (gI D k).toNat
    split
    ·exact ⟨(U0 _ _).1,A5g h9 hp.rate.1 hp.rate.2⟩
    ·exact ⟨D6i _,h9⟩
   have h0s:∀ x∈I6 p us D m i,0≤x:=fun x hx=>by obtain ⟨k,hk,rfl⟩:=D3 hx;exact (hb0 k hk).1
   have hsum:A2 (I6 p us D m i)≤1000000000000000:=by
    have h5:=A2w hu (hP.take i) (offs:=I6 p us D m i) (by rw [hln,D5M];omega) hb0 (I6 p us D m i).length (D5L _)
    rw [D5N] at h5
    have:=h5.sum
    have:=hu.sum
    have:=C1 (h5.ok hu).nets0
    omega
   have hE:A2L us (D.take i) (I6 p us D m i) p.closes=W5 p us mine:=by
    rw [hout]
    unfold A2L
    rw [hln,A8J i (D5L _)]
    have hn:=C1 h0s
    by_cases hz:A2 (I6 p us D m i)=0
    ·rw [if_pos hz,hz,A3b (A3Q h0s hz) i (by omega)];rfl
    ·rw [if_neg hz,D6m (show A2 (I6 p us D m i)>0 by omega),D5T]
   rw [←hE];conv=>whnf
   have hsh:A7 [C6 us,.arr 1 i (fun i=>eI (D.getD ((0:Int).toNat+i) default)),sv,eB p.closes] s [C6 us,B0 (D.take i),B0 (I6 p us D m i),eB p.closes] st:=by
    refine A7.cons (t:=s) (A7.keep _ _) (A7.cons (t:=s) ?_ (A7.cons hc.shift (A7.keep _ _)))
    have e:B0 (D.take i)=.arr 1 i (fun k=>eI (gI (D.take i) k)):=by unfold B0 A8;rw [D5M,D8J (by omega)]
    rw [e]
    refine A7.arr fun k hk=>?_
    show eI (D.getD ((0:Int).toNat+k) default)=eI ((D.take i).getD k default)
    rw [show (0:Int).toNat+k=k by simp,D5C,D5C,D5Q hk]
   refine F3 hsh (B3 (B4N us (D.take i) (I6 p us D m i) p.closes hu (hP.take i) (by rw [D5M];omega) (by rw [hln,D5M];omega) hb0 hsum st) ?_);conv=>whnf
   exact ⟨rfl,rfl⟩
  ·have hi':=D8 hd
   have hr:=hP.rng i (by omega)
   have hrem:(i:Int).tmod (m:Int)=((i % m:Nat):Int):=by rw [D7q (by omega),Int.natCast_emod]
   have hln:(I6 p us D m i).length=i:=by unfold I6;simp
   have hsn:I6 p us D m (i+1)=I6 p us D m i++[B3b p us D m i]:=by unfold I6;rw [D6R,D6g];rfl
   have hbo:B3b p us D m i=if ((i % m:Nat):Int)≥p.buy then J7 (gU us (gI D i).toNat).net p.rate else 0:=rfl
   conv=>whnf
   refine ⟨[],[],List.range 6,by kernel_rfl,?_⟩;conv=>whnf
   rw [D5J (show ¬(m:Int)=0 by omega)];conv=>whnf
   rw [hrem]
   refine B8 (fun h1=>?_) (fun h1=>?_)<;>rw [h1]
   case' refine_1 =>
    rw [if_pos (D5F h1)] at hbo;conv=>whnf
    refine ⟨[],[],List.range 12,by kernel_rfl,?_⟩;conv=>whnf
    refine E7 ?_
    rw [show (0:Int).toNat+(i:Int).toNat=i by simp]
    refine ⟨rfl,⟨by show 0≤gI D i;omega,by show gI D i<(us.length:Int);omega⟩,?_⟩;conv=>whnf
    refine ⟨_,H0 (A8B (gU us (gI D i).toNat).net p.rate _),?_⟩
    rw [←hbo]
   case' refine_2 =>
    rw [if_neg (D5G h1)] at hbo
   all_goals (conv=>whnf)
   all_goals refine E0.app (q:=r2) (y:=B3b p us D m i) rfl rfl rfl rfl rfl (by first | rfl | (rw [hbo];rfl)) (by show (_+1) * 8≤140737488355328;omega) hc (fun sv' s' hc'=>?_)
   all_goals (conv=>whnf)
   all_goals refine ⟨rfl,?_⟩
   all_goals (conv=>whnf)
   all_goals exact nx hi' ⟨sv',by rw [B4 (by omega)],by rw [hsn];exact hc'⟩
theorem C1S (used:List Bool) (l:List QE):∃ pre,l=pre++(O6 used l).2∧∀ e∈pre,used.getD e.2.toNat default=true∨(O6 used l).1=some e.2:=by
 induction l with
 | nil=>exact ⟨[],rfl,fun e h=>by cases h⟩
 | cons e l ih =>
  by_cases hu:used.getD e.2.toNat default=true
  ·have ht:O6 used (e::l)=O6 used l:=by
    show (if used.getD e.2.toNat default=true then O6 used l else (some e.2,l))=_
    rw [if_pos hu]
   obtain ⟨pre,h1,h2⟩:=ih
   rw [ht]
   exact ⟨e::pre,by rw [D7X,←h1],fun x hx=>by
    rcases D7f.1 hx with rfl | hx
    ·exact .inl hu
    ·exact h2 x hx⟩
  ·have ht:O6 used (e::l)=(some e.2,l):=by
    show (if used.getD e.2.toNat default=true then O6 used l else (some e.2,l))=_
    rw [if_neg hu]
   rw [ht]
   exact ⟨[e],rfl,fun x hx=>by rw [D6h] at hx;subst hx;exact .inr rfl⟩
theorem B8L {used:List Bool} {pre:List QE} (h:∀ e∈pre,used.getD e.2.toNat default=true) (l:List QE):O6 used (pre++l)=O6 used l:=by
 induction pre with
 | nil=>rfl
 | cons e pre ih =>
  show (if used.getD e.2.toNat default=true then O6 used (pre++l) else (some e.2,pre++l))=_
  rw [if_pos (h e (D6f ..))]
  exact ih fun x hx=>h x (D6d _ hx)
def A4f (E:Nat→List QE) (n:Nat) (s:MSt):Prop:=∀ k,k<n→∃ pre,E k=pre++s.es k∧∀ e∈pre,s.used.getD e.2.toNat default=true
theorem A6m {used:List Bool} {i:Nat} (hi:i<used.length) (j:Nat):(used.set i true).getD j default=if j=i then true else used.getD j default:=by
 simp only [D5C,D7N]
 by_cases h:j=i
 ·subst h;simp [hi]
 ·rw [if_neg (fun e=>h e.symm),if_neg h]
theorem A4f.take {E:Nat→List QE} {us:List B2} {n:Nat} {s s':MSt} (h:A4f E n s) (hok:MOk us n s) {k:Nat} (hk:k<n) (ht:A1a k s=some s'):A4f E n s':=by
 obtain ⟨pre0,p1,p2⟩:=C1S s.used (s.es k)
 obtain ⟨_,t2,_,_⟩:=A3A s.used (s.es k)
 unfold A1a at ht
 split at ht
 ·cases ht
 ·rename_i i hi
  cases ht
  obtain ⟨e0,he0,rfl,_⟩:=t2 i hi
  have hlt:e0.2.toNat<s.used.length:=by rw [hok.len];exact (hok.rng k hk e0 he0).2
  intro j hj
  obtain ⟨pre,h1,h2⟩:=h j hj
  have hmono:∀ e:QE,s.used.getD e.2.toNat default=true→(s.used.set e0.2.toNat true).getD e.2.toNat default=true:=fun e he=>by
   rw [A6m hlt];split
   ·rfl
   ·exact he
  by_cases ej:j=k
  ·subst ej
   refine ⟨pre++pre0,?_,fun e he=>?_⟩
   ·show E j=_++A0l s.es j _ j
    rw [G8,D7e,←p1];exact h1
   ·rcases D6T.1 he with he | he
    ·exact hmono e (h2 e he)
    ·rcases p2 e he with he | he
     ·exact hmono e he
     ·rw [hi] at he
      have he:=Option.some.inj he
      show (s.used.set _ true).getD _ default=true
      rw [A6m hlt,if_pos (by rw [he])]
  ·refine ⟨pre,?_,fun e he=>hmono e (h2 e he)⟩
   show E j=_++A0l s.es k _ j
   rw [N5 ej];exact h1
theorem A4f.takes {E:Nat→List QE} {us:List B2} {n:Nat} {s:MSt} (h:A4f E n s) (hok:MOk us n s) {k:Nat} (hk:k<n):∀ {c:Nat} {s':MSt},T3 k c s=some s'→A4f E n s'
 | 0,s',e=>by cases e;exact h
 | c+1,s',e=>by
  unfold T3 at e
  obtain ⟨s1,h1,h2⟩:=D6P.1 e
  exact (A4f.takes h hok hk h1).take (hok.takes hk h1) hk h2
theorem A4f.parts {E:Nat→List QE} {us:List B2} {p:B1} {s:MSt} (h:A4f E p.parts.length s) (hok:MOk us p.parts.length s):∀ {k:Nat} {s':MSt},k≤p.parts.length→L6 p.parts k s=some s'→A4f E p.parts.length s'
 | 0,s',_,e=>by cases e;exact h
 | k+1,s',hk,e=>by
  unfold L6 at e
  obtain ⟨s1,h1,h2⟩:=D6P.1 e
  exact (A4f.parts h hok (by omega) h1).takes (MOk.parts hok (by omega) h1) (by omega) h2
def A9l (p:B1) (ms:MSt):List Int:=match L6 p.parts p.parts.length ms with | none=>[] | some s=>C5 s.l
theorem C8s (p:B1) (hp:A4d p) (us:List B2) (hul:us.length≤100000) (E:Nat→List QE) (L:List (List Int)) (hL:L.length=p.parts.length) (hLE:∀ k,k<p.parts.length→L.getD k default=(E k).map (·.2)) (hE:∀ k,k<p.parts.length→(E k).length≤100000∧∀ e∈E k,0≤e.2∧e.2.toNat<us.length)
  (ms:MSt) (hl0:ms.l=[]) (hm:MOk us p.parts.length ms) (hpre:A4f E p.parts.length ms) (bu:Nat) (gu:Nat→AV) (st:St) (bl:Nat) (gl:Nat→AV) (hbl:st bl=some ⟨29,1,L.length,gl⟩) (hgl:∀ k,k<L.length→gl k=B0 (L.getD k default)) (hbu:st bu=some ⟨4,1,us.length,gu⟩) (hgu:∀ k,k<us.length→gu k=eB (ms.used.getD k default)) :
  S P 257 [B7 p,C6 us,.own 1 bl 0 L.length,.own 1 bu 0 us.length] st fun v st'=>v=B0 (A9l p ms)∧st'=st:=by
 refine S.post (post:=fun v st'=>((v=.emp∧A9l p ms=[])∨v=B0 (A9l p ms))∧E8 st st') ?_
  (fun v st' ⟨h,hs⟩=>⟨_,st,⟨rfl,rfl⟩,by
   rcases h with ⟨rfl,h⟩ | rfl
   ·rw [h];exact (hs.shift _).trans (I1 1 _)
   ·exact hs.shift _⟩)
 have hn8:=hp.n8
 refine SyW [4] Tryz.func257 ?_
 have main:∀ (tv:AV) (s0:St) ,Col 4 1 (fun k=>eB (ms.used.getD k default)) st us.length tv s0→True:=fun _ _ _=>trivial
 conv=>whnf
 refine Col.apps (q:=r4) (f:=fun k=>eB (ms.used.getD k default)) rfl rfl rfl rfl (C8F hbu rfl (by show 0+us.length≤us.length;omega)) (fun i hi=>by show gu (0+i)=eB (ms.used.getD (0+i) default);rw [D5R];exact hgu i hi) (by show (0+us.length) * 1≤_;omega) (Col.start _ _ _ st) (fun tv s0 hc0=>?_)
 rw [D5R] at hc0
 clear main
 conv=>whnf
 refine lp p.parts.length [2,4,9,10,11] (fun i vs s=>∃ sv tv s0 si,vs=[.own 1 bl 0 L.length,.fptr (B7 p) 0,sv,tv,eI i]∧L6 p.parts i ms=some si∧Col 4 1 (fun k=>eB (si.used.getD k default)) st us.length tv s0∧E0 3 1 eI si.l s0 sv s) ?_ ?_
 ·conv=>whnf
  exact ⟨.emp,tv,s0,ms,rfl,rfl,hc0,by rw [hl0];exact E0.start _ _ _ _⟩
 ·clear hc0
  rintro i vs s hi ⟨sv,tv,s0,si,rfl,hsi,hc0,hc1⟩
  have hmi:=MOk.parts hm hi hsi
  have hpi:=hpre.parts hm hi hsi
  have hleni:=A2a hp hi hsi
  rw [hl0,D6W] at hleni;conv=>whnf
  cases hd:decide ((i:Int)<(p.parts.length:Int))
  ·obtain rfl:=C4 hd hi
   have hone:A9l p ms=C5 si.l:=by unfold A9l;rw [hsi]
   conv=>whnf
   refine F3 hc1.shift (B3 (C1A si.l (by omega) _) ?_);conv=>whnf
   exact ⟨.inr (by rw [hone];rfl),hc0.sup⟩
  ·have hi':=D8 hd
   have hLi:L.getD (i:Int).toNat default=(E i).map (·.2):=by rw [D5P];exact hLE i hi'
   obtain ⟨hEl,hEr⟩:=hE i hi'
   have hct:=hp.at hi'
   obtain ⟨pre,hpr1,hpr2⟩:=hpi i hi'
   have hcn:(p.parts.getD (i:Int).toNat default).count=(((p.parts.getD i default).count.toNat:Nat):Int):=by rw [D5P];omega
   have hfin:L6 p.parts (i+1) ms=T3 i (p.parts.getD i default).count.toNat si:=by
    conv=>lhs;unfold L6
    rw [hsi];rfl
   have hnone:∀ n,n≤(p.parts.getD i default).count.toNat→T3 i n si=none→A9l p ms=[]:=fun n hn hnn=>by
    have h1:=A6r hnn hn
    rw [←hfin] at h1
    unfold A9l;rw [A6a h1 hi']
   have hC100:(p.parts.getD i default).count.toNat≤100:=by omega
   generalize (p.parts.getD i default).count.toNat=C at *
   conv=>whnf
   refine lp (E i).length [2,4,9,10,11,12,13] (fun k vs s=>∃ (sv tv:AV) (s0:St) (n:Nat) (si2:MSt),vs=[.own 1 bl 0 L.length,.fptr (B7 p) 0,sv,tv,eI i,eI n,eI k]∧n≤C∧T3 i n si=some si2∧O6 si2.used (si2.es i)=O6 si2.used ((E i).drop k)∧Col 4 1 (fun k=>eB (si2.used.getD k default)) st us.length tv s0∧E0 3 1 eI si2.l s0 sv s) ?_ ?_
   ·conv=>whnf
    exact ⟨sv,tv,s0,0,si,rfl,D6e _,rfl,by rw [List.drop_zero,hpr1,B8L hpr2],hc0,hc1⟩
   ·clear hc0 hc1
    rintro k vs s hk ⟨sv,tv,s0,n,si2,rfl,hn,hs2,htk,hc0,hc1⟩
    have hm2:=hmi.takes hi' hs2
    have hlen2:=A2e hs2
    have hlv:=hc1.sup bl _ (hc0.sup bl _ hbl)
    have hgi:gl (0+(i:Int).toNat)=B0 (L.getD (i:Int).toNat default):=by rw [D5R];exact hgl _ (by omega)
    conv=>whnf
    refine E7 ?_
    refine J0 hlv hgi ?_
    rw [hLi]
    have hml:((E i).map (·.2)).length=(E i).length:=D5H ..
    generalize hMe:(E i).map (·.2)=Mi at *
    rw [hml]
    cases hd1:decide ((k:Int)<((E i).length:Int))
    case' false =>
     have hbad:n<C→A9l p ms=[]:=fun hlt=>by
      obtain rfl:=C4 hd1 hk
      refine hnone (n+1) hlt ?_
      unfold T3
      rw [hs2]
      show A1a i si2=none
      unfold A1a
      rw [htk,List.drop_length];rfl
     conv=>whnf
    case' true =>
     have hk':=D8 hd1
     conv=>whnf
     refine E7 ?_
     rw [hcn]
     cases hd2:decide ((n:Int)<(C:Int))
     case' false =>
      have hbad:n<C→A9l p ms=[]:=fun hlt=>absurd hd2 (by rw [D6m (by omega)];simp)
      conv=>whnf
     case' true =>
      have hnC:=D8 hd2
      have hMk:Mi.getD (k:Int).toNat default=(at_ (E i) k).2:=by rw [←hMe,D5P];exact D4 (fun e:QE=>e.2) _ hk'
      have hu:0≤(at_ (E i) k).2∧(at_ (E i) k).2.toNat<us.length:=hEr _ (A6 hk')
      have hdrop:(E i).drop k=at_ (E i) k::(E i).drop (k+1):=by
       rw [D7G hk'];simp [at_,hk']
      have hul2:us.length=si2.used.length:=hm2.len.symm
      rcases hc0 with ⟨h0,rfl,rfl⟩ | ⟨h0,bt,g,hbt,rfl,rfl,hg⟩
      ·omega
      have hbs:=hc1.sup bt _ (A0 ..)
      conv=>whnf
      refine E7 ?_
      refine J0 hlv hgi ?_
      rw [hLi]
      refine E7 ?_
      rw [←hMk] at hu
      refine E7 ?_
      refine ldV hbs rfl (by omega) (v:=eB (si2.used.getD (Mi.getD (k:Int).toNat default).toNat default)) (by rw [D5R];exact hg _ hu.2) ?_;conv=>whnf
      refine B8 (fun h5=>?_) (fun h5=>?_)<;>rw [h5]
      ·have hfr:si2.used.getD (Mi.getD (k:Int).toNat default).toNat default=false:=by simpa using h5
       have htk2:O6 si2.used (si2.es i)=(some (Mi.getD (k:Int).toNat default),(E i).drop (k+1)):=by
        rw [htk,hdrop,hMk]
        show (if si2.used.getD (at_ (E i) k).2.toNat default=true then _ else _)=_
        rw [if_neg (by rw [←hMk,hfr];simp)]
       have hs3:T3 i (n+1) si=some ⟨si2.used.set (Mi.getD (k:Int).toNat default).toNat true,A0l si2.es i ((E i).drop (k+1)),si2.l++[(Mi.getD (k:Int).toNat default)]⟩:=by
        unfold T3
        rw [hs2]
        show A1a i si2=_
        unfold A1a
        rw [htk2]
       conv=>whnf
       refine E7 ?_
       refine stV hbs rfl (by omega) (v:=eB (si2.used.getD (Mi.getD (k:Int).toNat default).toNat default)) (by rw [D5R];exact hg _ hu.2) (by rfl) ?_
       have hc2:=Col.write hc1 (y':=⟨4,1,us.length,I3 g (0+(Mi.getD (k:Int).toNat default).toNat) (eB true)⟩) (A0 ..)
       rw [C0] at hc2;conv=>whnf
       refine E0.app (q:=r3) (y:=(Mi.getD (k:Int).toNat default)) (L:=si2.l) rfl rfl rfl rfl rfl rfl (by show (_+1) * 8≤140737488355328;omega) hc2 (fun sv' s' hc'=>?_);conv=>whnf
       refine F7 ?_
       refine nx hk' ⟨sv',.own 1 bt 0 us.length,_,n+1,_,by rw [B4 (by omega),B4 (by omega)],hnC,hs3,?_,.inr ⟨h0,bt,_,hbt,rfl,rfl,fun j hj=>?_⟩,hc'⟩
       ·show O6 _ (A0l si2.es i _ i)=_
        rw [G8]
       ·show I3 g (0+(Mi.getD (k:Int).toNat default).toNat) (eB true) j=eB ((si2.used.set (Mi.getD (k:Int).toNat default).toNat true).getD j default)
        rw [D5R,A6m (by omega)]
        by_cases ej:j=(Mi.getD (k:Int).toNat default).toNat
        ·rw [if_pos ej,ej,A4]
        ·rw [if_neg ej,H1 ej];exact hg j hj
      ·have hfr:si2.used.getD (Mi.getD (k:Int).toNat default).toNat default=true:=by simpa using h5
       conv=>whnf
       refine F7 ?_
       refine nx hk' ⟨sv,.own 1 bt 0 us.length,_,n,si2,by rw [B4 (by omega)],hn,hs2,?_,.inr ⟨h0,bt,g,hbt,rfl,rfl,hg⟩,hc1⟩
       rw [htk,hdrop]
       show (if si2.used.getD (at_ (E i) k).2.toNat default=true then O6 si2.used ((E i).drop (k+1)) else _)=_
       rw [if_pos (by rw [←hMk];exact hfr)]
    all_goals
     refine E7 ?_
     rw [hcn]
     cases hd3:decide ((n:Int)<(C:Int))
     ·obtain rfl:n=C:=by have:=D5G hd3;omega
      conv=>whnf
      refine F7 ?_
      exact nx hi' ⟨sv,tv,s0,si2,by rw [B4 (by omega)],by rw [hfin];exact hs2,hc0,hc1⟩
     ·have hb:=hbad (D8 hd3)
      conv=>whnf
      exact ⟨.inl ⟨rfl,hb⟩,hc0.sup.trans hc1.sup⟩
abbrev RL (ls:List Int) (svl:AV):St→St→Prop:=fun s t=>ROut E8 2 1 (fun k=>eI (gI ls k)) ls.length s svl t
abbrev RA (all ls:List Int) (sva svl:AV):St→St→Prop:=fun s t=>ROut (RL ls svl) 3 1 (fun k=>eI (gI all k)) all.length s sva t
theorem B4a (ls:List Int) (svl:AV):L3 (RL ls svl):=U7 J4 _ _ _ _ _
theorem B9c (all ls:List Int) (sva svl:AV):L3 (RA all ls sva svl):=U7 (B4a ls svl) _ _ _ _ _
theorem RA.appA {all ls:List Int} {sva svl:AV} {s t:St} {y:Int} {x:AV} {k:KK} {g:Nat→AV} (h:RA all ls sva svl s t) (hs:A0g 1 t x=some (1,g)) (hg:g 0=eI y) (hb:(all.length+1) * 8≤140737488355328)
  (hk:∀ sva' t',RA (all++[y]) ls sva' svl s t'→k sva' t'):A5A T 29 sva x t k :=
 ROut.app (q:=r3) (f:=fun k=>eI (gI (all++[y]) k)) (B4a ls svl) rfl rfl rfl rfl hs (by rw [hg];show eI y=eI (gI _ _);rw [A8g]) hb (ROut.congr h fun k hk=>by show eI _=eI _;rw [N6 hk]) (fun sv' t' h'=>hk sv' t' (by
  show ROut _ _ _ _ (all++[y]).length _ _ _
  rw [D5O];exact h'))
theorem RA.appL {all ls:List Int} {sva svl:AV} {s t:St} {y:Int} {x:AV} {k:KK} {g:Nat→AV} (h:RA all ls sva svl s t) (hs:A0g 1 t x=some (1,g)) (hg:g 0=eI y) (hb:(ls.length+1) * 8≤140737488355328)
  (hk:∀ svl' t',RA all (ls++[y]) sva svl' s t'→k svl' t'):A5A T 110 svl x t k:=by
 obtain ⟨s0,hc,h⟩:=h
 refine ROut.app (q:=r2) (f:=fun k=>eI (gI (ls++[y]) k)) J4 rfl rfl rfl rfl hs (by rw [hg];show eI y=eI (gI _ _);rw [A8g]) hb (ROut.congr h fun k hk=>by show eI _=eI _;rw [N6 hk]) (fun sv' t' h'=>hk sv' t' ⟨s0,hc,?_⟩)
 show ROut _ _ _ _ (ls++[y]).length _ _ _
 rw [D5O];exact h'
theorem RA.start (s:St):RA [] [] .emp .emp s s:=ROut.start (ROut.start (E8.refl s) _ _ _) _ _ _
theorem RA.shift {all ls:List Int} {sva svl:AV} {s t:St} (h:RA all ls sva svl s t) (a b:AV):∃ t2,A7 [a,sva,svl,b] t [a,B0 all,B0 ls,b] t2∧E8 s t2:=by
 obtain ⟨t1,h1,h2⟩:=ROut.shift (B4a ls svl) h
 obtain ⟨t2,h3,h4⟩:=ROut.shift J4 h2
 exact ⟨t2,A7.cons (A7.keep _ _) (A7.cons h1 (A7.cons h3 (A7.keep _ _))),h4⟩
def A3X (u:List Bool) (l:List Int):List Bool:=l.foldl (fun u x=>u.set x.toNat true) u
theorem B8x (u:List Bool) (l:List Int):(A3X u l).length=u.length:=by
 unfold A3X
 induction l generalizing u with
 | nil=>rfl
 | cons x l ih=>rw [D6U,ih,D6Z]
theorem B8w {u:List Bool} {l:List Int} (hl:∀ x∈l,x.toNat<u.length) (j:Nat):(A3X u l).getD j default=true↔u.getD j default=true∨j∈l.map Int.toNat:=by
 unfold A3X
 induction l generalizing u with
 | nil=>simp
 | cons x l ih =>
  rw [D6U,ih (fun y hy=>by rw [D6Z];exact hl y (D6d _ hy)),A6m (hl x (D6f ..)),D6I,D7f]
  by_cases h:j=x.toNat
  ·simp [h]
  ·rw [if_neg h];simp [h]
theorem A9S {us:List B2} {l offs l' offs':List Int} (h:l.length=offs.length):∀ k,k≤offs'.length→k≤l'.length→D1 us (l++l') (offs++offs') (offs.length+k)=D1 (D1 us l offs offs.length) l' offs' k
 | 0,_,_=>by
  rw [D7W]
  have:∀ n,n≤offs.length→D1 us (l++l') (offs++offs') n=D1 us l offs n:=fun n=>by
   induction n with
   | zero=>intro _;rfl
   | succ n ih =>
    intro hn
    unfold D1
    rw [ih (by omega),N6 (by omega),N6 (by omega)]
  exact this _ (D5L _)
 | k+1,h1,h2=>by
  have ih:=A9S (us:=us) (l':=l') (offs':=offs') h k (by omega) (by omega)
  have e:∀ (a b:List Int),a.length=offs.length→gI (a++b) (offs.length+k)=gI b k:=fun a b ha=>by
   unfold gI
   rw [D5C,D5C,D5Z (by omega),ha,Nat.add_sub_cancel_left]
  rw [←D8n]
  unfold D1
  rw [ih,e l l' h,e offs offs' rfl]
structure C5j (p:B1) (us:List B2) (E:Nat→List QE) (D:Nat) (b:BSt) (ls:List Int):Prop where
 ok:BOk p us D b
 pre:A4f E p.parts.length ⟨b.ms.used,b.ms.es,[]⟩
 len:ls.length=b.taken.length
 out:b.out=D1 us b.taken ls ls.length
 sum:A2 ls=b.all
 pos:b.taken=[]∨0<b.all
 bnd:∀ k,k<ls.length→0≤gI ls k∧gI ls k≤(gU us (gI b.taken k).toNat).net
 nd:(b.taken.map Int.toNat).Nodup
 used:∀ x∈b.taken,b.ms.used.getD x.toNat default=true
theorem C5j.step {p:B1} (hp:A4d p) {us:List B2} (hu:E1 us) {E:Nat→List QE} {D:Nat} {b:BSt} {ls:List Int} (h:C5j p us E D b ls) {s:MSt} (hs:L6 p.parts p.parts.length ⟨b.ms.used,b.ms.es,[]⟩=some s) (hc:H9 us s.l>p.amount) :
  E2 us (C5 s.l)=I9 b.out (C5 s.l)∧C5j p us E D ⟨A3q b.out (C5 s.l) (H9 us s.l - p.amount),s,b.taken++C5 s.l,b.all+(H9 us s.l - p.amount)⟩ (ls++D2 (H9 us s.l - p.amount) (E2 us (C5 s.l))):=by
 obtain ⟨k1,k2,k3⟩:=h.ok.step hp hu hs hc
 have hok0:MOk us p.parts.length ⟨b.ms.used,b.ms.es,[]⟩:=⟨h.ok.ok.len,h.ok.ok.rng,h.ok.ok.srt,fun x hx=>by simp at hx⟩
 have hok:=MOk.parts hok0 (D5L _) hs
 have htr:=Y4.parts (Y4.start b.ms.used b.ms.es) hok0 (D5L _) hs
 have hpre:=h.pre.parts hok0 (D5L _) hs
 have hN:E2 us (C5 s.l)=I9 b.out (C5 s.l):=by
  unfold E2 I9
  exact D6V fun x hx=>by rw [h.ok.same _ (htr.free x (U9.1 hx))]
 have hW:=k1.weights
 rw [←hN] at hW
 obtain ⟨a1,a2,a3⟩:=T7 hW
 have hle:=fun {k} (hk:k<(E2 us (C5 s.l)).length)=>A3o hW (by have:=k1.le;rw [←hN] at this;exact this) hk
 have hnl:=A5b us (C5 s.l)
 have hlf:A3q b.out (C5 s.l) (H9 us s.l - p.amount)=D1 b.out (C5 s.l) (D2 (H9 us s.l - p.amount) (E2 us (C5 s.l))) (D2 (H9 us s.l - p.amount) (E2 us (C5 s.l))).length:=by
  unfold A3q;rw [←hN,a2,hnl]
 have hlen:=h.len
 generalize D2 (H9 us s.l - p.amount) (E2 us (C5 s.l))=X at *
 refine ⟨hN,⟨k2,hpre,?_,?_,?_,?_,?_,?_,?_⟩⟩
 ·show (ls++X).length=(b.taken++C5 s.l).length
  rw [D5O,D5O];omega
 ·show A3q _ _ _=D1 us (b.taken++C5 s.l) (ls++X) (ls++X).length
  rw [hlf,h.out,D5O,A9S h.len.symm X.length (D5L _) (by omega)]
 ·show A2 (ls++X)=_
  rw [F4,h.sum,a1]
 ·refine .inr ?_
  show 0<b.all+(H9 us s.l - p.amount)
  have:=h.ok.off.pos
  omega
 ·intro k hk
  show 0≤gI (ls++X) k∧gI (ls++X) k≤(gU us (gI (b.taken++C5 s.l) k).toNat).net
  by_cases hkl:k<ls.length
  ·rw [N6 hkl,N6 (by omega)];exact h.bnd k hkl
  ·have e:∀ (a b:List Int),a.length=ls.length→gI (a++b) k=gI b (k - ls.length):=fun a b ha=>by
    unfold gI
    rw [D5C,D5C,D5Z (by omega),ha]
   rw [D5O] at hk
   rw [e ls X rfl,e b.taken _ hlen.symm]
   refine ⟨a3 _ (A6 (by omega)),?_⟩
   have h9:=hle (k:=k - ls.length) (by omega)
   rw [show gI (E2 us (C5 s.l)) (k - ls.length)=(gU us (gI (C5 s.l) (k - ls.length)).toNat).net from D4 (fun i:Int=>(gU us i.toNat).net) _ (by omega)] at h9
   exact h9
 ·show ((b.taken++C5 s.l).map Int.toNat).Nodup
  rw [D6g]
  refine List.nodup_append.2 ⟨h.nd,((A1m s.l).map Int.toNat).nodup_iff.2 htr.nd,fun x hx y hy e=>?_⟩
  subst e
  obtain ⟨u,hu1,rfl⟩:=D5X.1 hx
  obtain ⟨w,hw1,hw2⟩:=D5X.1 hy
  have f1:=h.used u hu1
  have f2:=htr.free w (U9.1 hw1)
  rw [hw2,f1] at f2;cases f2
 ·intro x hx
  show s.used.getD x.toNat default=true
  rw [htr.used]
  rcases D6T.1 hx with hx | hx
  ·exact .inl (h.used x hx)
  ·exact .inr (D8t (U9.1 hx))
set_option maxHeartbeats 1000000 in
theorem C1n (p:B1) (us:List B2) (parts:List (List Int)) (hps:A2T p) (hright:G9 p=true) (hk:p.kind=4) (hp:A4d p) (hu:E1 us) (hl:parts.length=p.parts.length) (hm:∀ x∈parts,N9 us x) (st:St) :
  S P 219 [B7 p,C6 us,A8 1 B0 parts] st fun v st'=>v=.tuple [C6 (R7 p us parts).1,eI (R7 p us parts).2]∧st'=st:=by
 have hul:=hu.len
 have hn1:=hp.n1
 have hn8:=hp.n8
 have ha:=hp.amt
 have hme:∀ k,k<parts.length→N9 us (parts.getD k default):=fun k hk=>hm _ (A6 hk)
 have hst0:=A5N hu hl (fun k hk=>hme k hk)
 have hD:tot p.parts.length (F5 us parts).ms.es≤800000:=by
  have:=C4K (n:=p.parts.length) (B:=100000) (es:=(F5 us parts).ms.es) (fun i hi=>by
   show (D9 us (parts.getD i [])).length≤100000
   rw [A1Y]
   exact D6S (hme i (by omega)).len hul)
  have h8:p.parts.length * 100000≤8 * 100000:=D6F _ hn8
  omega
 refine A1S ?_
 refine F2 [3] Tryz.func219 ?_
 refine Col.apps (q:=C1m) (f:=fun k=>Z3 (gU us k)) rfl rfl rfl rfl (A2K _ _ _ _) (fun i hi=>by rw [D5R]) (by show (0+us.length) * 24≤_;omega) (Col.start _ _ _ st) (fun svS st1 hcS=>?_)
 have hsupS:=hcS.sup
 clear hcS
 conv=>whnf
 refine I5 (A7E p hps hright _) ?_
 rw [show (p.kind != 4)=false from by rw [hk];rfl];conv=>whnf
 rw [show ((parts.length:Int) != (p.parts.length:Int))=false from by rw [hl];simp];conv=>whnf
 refine lp parts.length [1,2,3,8,9,10] (fun i vs s=>∃ sv,vs=[C6 us,A8 1 B0 parts,.fptr (B7 p) 0,svS,sv,eI i]∧E0 29 1 B0 ((parts.take i).map fun m=>(D9 us m).map (·.2)) st1 sv s) ?_ ?_
 ·conv=>whnf
  exact ⟨.emp,rfl,E0.start _ _ _ _⟩
 ·rintro i vs s hi ⟨sv,rfl,hc⟩
  conv=>whnf
  cases hd:decide ((i:Int)<(parts.length:Int))
  case true =>
   have hi':=D8 hd
   have hmi:N9 us (parts.getD (i:Int).toNat default):=by rw [D5P];exact hme i hi'
   conv=>whnf
   refine E7 ?_
   refine I5 (B8p us _ hu hmi _) ?_
   refine E7 ?_
   refine I5 (B9J us _ hu hmi _) ?_
   refine E0.app (q:=r29) (y:=(D9 us (parts.getD (i:Int).toNat default)).map (·.2)) rfl rfl rfl rfl rfl rfl (by show (_+1) * 24≤140737488355328;rw [D5H,D5M];omega) hc (fun sv' s' hc'=>?_);conv=>whnf
   refine F7 ?_
   exact nx hi' ⟨sv',by rw [B4 (by omega)],by rw [A1N hi'];exact hc'⟩
  obtain rfl:=C4 hd hi
  rw [D5N] at hc
  have hLl:(parts.map fun m=>(D9 us m).map (·.2)).length=parts.length:=D5H ..
  have hLg:∀ k,k<parts.length→(parts.map fun m=>(D9 us m).map (·.2)).getD k default=(D9 us (parts.getD k default)).map (·.2):=fun k hk=>D4 (fun m=>(D9 us m).map (·.2)) parts hk
  generalize (parts.map fun m=>(D9 us m).map (·.2))=L at *
  rcases hc with ⟨h0,_⟩ | ⟨h0,bl,gl,hbl,rfl,rfl,hgl⟩
  ·omega
  conv=>whnf
  refine mkO rfl rfl rfl (by show 1 * us.length≤_;omega) (by omega) (by rfl) (fun bu hbu=>?_)
  have hnlu:bl≠bu:=fun e=>by subst e;rw [A0] at hbu;cases hbu
  have hblS:(upd st1 bl ⟨29,1,L.length,gl⟩) bl=some ⟨29,1,L.length,gl⟩:=A0 ..
  have hsup2:E8 st (upd st1 bl ⟨29,1,L.length,gl⟩):=hsupS.upd hbl
  generalize upd st1 bl ⟨29,1,L.length,gl⟩=st2 at *
  conv=>whnf
  have hwb:∀ Y:K7,(upd st2 bu Y) bl=some ⟨29,1,L.length,gl⟩:=fun Y=>by rw [A9 hnlu];exact hblS
  refine ⟨[1,3,9,11,12,13],fun m vs s=>∃ (b:BSt) (ls:List Int) (sva svl:AV) (gu:Nat→AV) (f:Nat),m=tot p.parts.length b.ms.es∧vs=[C6 us,.fptr (B7 p) 0,.own 1 bl 0 L.length,.own 1 bu 0 us.length,sva,svl] ∧
   C5j p us (fun k=>D9 us (parts.getD k default)) (tot p.parts.length (F5 us parts).ms.es) b ls∧(tot p.parts.length b.ms.es<f∧A3l p us (tot p.parts.length (F5 us parts).ms.es+1) (F5 us parts)=A3l p us f b) ∧
   RA b.taken ls sva svl (upd st2 bu ⟨4,1,us.length,gu⟩) s∧∀ k,k<us.length→gu k=eB (b.ms.used.getD k default),?_,?_⟩
  ·conv=>whnf
   refine ⟨_,F5 us parts,[],.emp,.emp,_,_,rfl,rfl,?_,⟨D7Y _,rfl⟩,RA.start _,fun k hk=>?_⟩
   ·refine ⟨hst0,fun k hk=>⟨[],rfl,fun e he=>by cases he⟩,rfl,rfl,rfl,.inl rfl,fun k hk=>absurd hk (by simp),List.nodup_nil,fun x hx=>by simp [F5] at hx⟩
   ·show eB false=eB ((List.replicate us.length false).getD k default)
    simp [D5C,hk]
  ·rintro m vs s ⟨b,ls,sva,svl,gu,f,rfl,rfl,hI,⟨hf1,hF⟩,hR,hgu⟩
   have hok0:MOk us p.parts.length ⟨b.ms.used,b.ms.es,[]⟩:=⟨hI.ok.ok.len,hI.ok.ok.rng,hI.ok.ok.srt,fun x hx=>by simp at hx⟩
   have hBA:=B9c b.taken ls sva svl
   have hsu:=hBA.sup hR
   have hsu1:=hsu bu _ (A0 ..)
   have hsl1:=hsu bl _ (hwb _)
   have hbl2:=hI.ok.len
   obtain ⟨f,rfl⟩:∃ g,f=g+1:=⟨f - 1,by omega⟩
   conv=>whnf
   refine B3 (C8s p hp us hul (fun k=>D9 us (parts.getD k default)) L (by omega) (fun k hk=>hLg k (by omega)) (fun k hk=>⟨by show (D9 _ _).length≤_;rw [A1Y];exact D6S (hme k (by omega)).len hul,fun e he=>A6G (hme k (by omega)).rng he⟩) ⟨b.ms.used,b.ms.es,[]⟩ rfl hok0 hI.pre bu gu s bl gl hsl1 hgl hsu1 hgu) ?_
   have fin:A2g p us b=none→∀ t,RA b.taken ls sva svl (upd st2 bu ⟨4,1,us.length,gu⟩) t→∃ t2,A7 [C6 us,sva,svl,eB p.closes] t [C6 us,B0 b.taken,B0 ls,eB p.closes] t2∧E8 st t2 ∧
     S P 255 [C6 us,B0 b.taken,B0 ls,eB p.closes] t2 fun v st'=>v=.tuple [C6 (R7 p us parts).1,eI (R7 p us parts).2]∧st'=t2:=fun hno t ht=>by
    obtain ⟨t2,h1,h2⟩:=ht.shift (C6 us) (eB p.closes)
    have hPl:Z8 us b.taken:=B3w hI.ok.mem hI.nd
    have hout:A3l p us (tot p.parts.length (F5 us parts).ms.es+1) (F5 us parts)=b:=by
     rw [hF];unfold A3l;rw [hno]
    have h0s:∀ x∈ls,0≤x:=fun x hx=>by obtain ⟨k,hk,rfl⟩:=D3 hx;exact (hI.bnd k hk).1
    have hE:A2L us b.taken ls p.closes=R7 p us parts:=by
     unfold R7 A2L
     simp only
     rw [hout,←hI.sum,hI.out]
     by_cases hz:A2 ls=0
     ·have ht0:b.taken=[]:=by
       rcases hI.pos with e | e
       ·exact e
       ·rw [←hI.sum] at e;omega
      rw [if_pos hz,A3b (A3Q h0s hz) _ (D5L _),ht0,hz]
      show (us,(0:Int))=(if p.closes=true then us else us,0)
      split<;>rfl
     ·rw [if_neg hz]
    have hsum:A2 ls≤10000000000000:=by
     have h5:=hI.ok.off.sum
     have:=hu.sum
     have:=C1 (hI.ok.off.ok hu).nets0
     rw [hI.sum];omega
    have hlen:=hI.len
    have htl:b.taken.length≤1000000:=by have:=hI.ok.len;omega
    refine ⟨t2,h1,(hsup2.upd hbu).trans h2,?_⟩
    rw [←hE]
    exact B4N us b.taken ls p.closes hu hPl htl (by omega) hI.bnd (by omega) t2
   cases hs:L6 p.parts p.parts.length ⟨b.ms.used,b.ms.es,[]⟩ with
   | none =>
    have hone:A9l p ⟨b.ms.used,b.ms.es,[]⟩=[]:=by unfold A9l;rw [hs]
    obtain ⟨t2,g1,g2,g3⟩:=fin (by unfold A2g;rw [hs]) s hR
    rw [hone];conv=>whnf
    refine I5 (A6R us [] (by simp) (fun k hk=>absurd hk (by simp)) _) ?_
    refine I5 (A9w [] (by simp) (fun x hx=>by cases hx) (by decide) _) ?_
    refine F3 g1 (B3 g3 ?_);conv=>whnf
    exact ⟨rfl,g2⟩
   | some s1 =>
    have hok:=MOk.parts hok0 (D5L _) hs
    have htr:=Y4.parts (Y4.start b.ms.used b.ms.es) hok0 (D5L _) hs
    have hlen1:=A2a hp (D5L _) hs
    have hpos:=A6b hp hs
    simp only [D6W] at hlen1 hpos
    have hone:A9l p ⟨b.ms.used,b.ms.es,[]⟩=C5 s1.l:=by unfold A9l;rw [hs]
    have hcost:A2 (E2 us (C5 s1.l))=H9 us s1.l:=A6X ((A1m s1.l).map fun i:Int=>(gU us i.toNat).net)
    have hcb:=A1q hu s1.l hok.mem
    have hSl:(C5 s1.l).length=s1.l.length:=X7 _
    have hSr:∀ k,k<(C5 s1.l).length→0≤gI (C5 s1.l) k∧(gI (C5 s1.l) k).toNat<us.length:=fun k hk=>hok.mem _ (U9.1 (A6 hk))
    have hnl:=A5b us (C5 s1.l)
    have hn0:∀ x∈E2 us (C5 s1.l),0≤x:=fun x hx=>by obtain ⟨i,hi,rfl⟩:=D5X.1 hx;exact hu.at0 _
    rw [hone];conv=>whnf
    refine I5 (A6R us (C5 s1.l) (by omega) hSr _) ?_
    refine B3 (A9w _ (by omega) hn0 (by rw [hcost];omega) _) ?_
    rw [hcost];conv=>whnf
    rw [show (((C5 s1.l).length:Int)==0)=false from D7u (by omega)];conv=>whnf
    refine B8 (fun hc=>?_) (fun hc=>?_)<;>rw [hc]
    ·have hc':=D5F hc
     obtain ⟨t2,g1,g2,g3⟩:=fin (by unfold A2g;rw [hs];simp only;rw [if_neg (by omega)]) s hR
     conv=>whnf
     refine F3 g1 (B3 g3 ?_);conv=>whnf
     exact ⟨rfl,g2⟩
    ·have hc':H9 us s1.l>p.amount:=by have:=D5G hc;omega
     obtain ⟨hN,hI2⟩:=hI.step hp hu hs hc'
     obtain ⟨k1,k2,k3⟩:=hI.ok.step hp hu hs hc'
     have hW:=k1.weights
     rw [←hN] at hW
     have hXl:=(T7 hW).2.1
     have hstep:A3l p us (f+1) b=A3l p us f ⟨A3q b.out (C5 s1.l) (H9 us s1.l - p.amount),s1,b.taken++C5 s1.l,b.all+(H9 us s1.l - p.amount)⟩:=by
      conv=>lhs;unfold A3l A2g
      rw [hs];simp only;rw [if_pos hc']
     have w1:IntKind.i64.wrap (H9 us s1.l - p.amount)=H9 us s1.l - p.amount:=A5 (by omega) (by omega)
     have hkl:=k2.len
     simp only at hkl k3
     rw [D5O] at hkl
     have hll:=hI.len
     conv=>whnf
     refine ⟨[],[],List.range 13,by kernel_rfl,?_⟩;conv=>whnf
     refine cqW (A6R us (C5 s1.l) (by omega) hSr _) ?_
     rw [w1]
     refine ⟨_,H0 (A7G _ (E2 us (C5 s1.l)) hW _),?_⟩
     generalize D2 (H9 us s1.l - p.amount) (E2 us (C5 s1.l))=X at *
     conv=>whnf
     refine lp (C5 s1.l).length [1,3,9,11,12,13,14,16,18] (fun i vs s=>∃ (sva svl:AV) (g:Nat→AV),vs=[C6 us,.fptr (B7 p) 0,.own 1 bl 0 L.length,.own 1 bu 0 us.length,sva,svl,B0 (C5 s1.l),B0 X,eI i] ∧
      RA (b.taken++(C5 s1.l).take i) (ls++X.take i) sva svl (upd st2 bu ⟨4,1,us.length,g⟩) s∧∀ k,k<us.length→g k=eB ((A3X b.ms.used ((C5 s1.l).take i)).getD k default)) ?_ ?_
     ·conv=>whnf
      exact ⟨sva,svl,gu,rfl,by rw [D7p,D7p,D7y,D7y];exact hR,hgu⟩
     ·clear hR hgu fin hsu hsu1 hsl1 hBA
      rintro i vs s hi ⟨sva,svl,g,rfl,hR,hg⟩
      have hBA:=B9c (b.taken++(C5 s1.l).take i) (ls++X.take i) sva svl
      conv=>whnf
      cases hd:decide ((i:Int)<((C5 s1.l).length:Int))
      ·obtain rfl:=C4 hd hi
       rw [D5N] at hR hg
       rw [D7w (show X.length≤(C5 s1.l).length by omega)] at hR;conv=>whnf
       refine F7 ?_
       refine ⟨tot p.parts.length s1.es,k3,_,_,sva,svl,g,f,rfl,rfl,hI2,⟨by show tot p.parts.length s1.es<f;omega,by rw [←hstep];exact hF⟩,hR,fun k hk=>?_⟩
       rw [hg k hk]
       congr 1
       show (A3X b.ms.used (C5 s1.l)).getD k default=s1.used.getD k default
       rw [←D7M,B8w (fun x hx=>by rw [hI.ok.ok.len];exact (hok.mem x (U9.1 hx)).2),htr.used]
       constructor
       ·rintro (h | h)
        ·exact .inl h
        ·obtain ⟨y,hy,rfl⟩:=D5X.1 h;exact .inr (D8t (U9.1 hy))
       ·rintro (h | h)
        ·exact .inl h
        ·obtain ⟨y,hy,rfl⟩:=D5X.1 h;exact .inr (D8t (U9.2 hy))
      ·have hi':=D8 hd
       have hr:=hSr i hi'
       have hg2:=hBA.sup hR bu _ (A0 ..)
       have tk:∀ (l:List Int),i<l.length→l.take (i+1)=l.take i++[gI l i]:=fun l h=>K4 h
       conv=>whnf
       refine E7 ?_
       refine ⟨rfl,⟨by show 0≤gI (C5 s1.l) i;omega,by show gI (C5 s1.l) i<(us.length:Int);omega⟩,?_⟩;conv=>whnf
       refine stV hg2 rfl (by show 0+(gI (C5 s1.l) i).toNat<us.length;omega) (v:=eB ((A3X b.ms.used ((C5 s1.l).take i)).getD (gI (C5 s1.l) i).toNat default)) (by show g (0+(gI (C5 s1.l) i).toNat)=_;rw [D5R];exact hg _ hr.2) (by rfl) ?_
       have hR2:=hBA.write (y':=⟨4,1,us.length,I3 g (0+(gI (C5 s1.l) i).toNat) (eB true)⟩) hR (A0 ..)
       rw [C0] at hR2
       have hgn:∀ k,k<us.length→I3 g (0+(gI (C5 s1.l) i).toNat) (eB true) k=eB ((A3X b.ms.used ((C5 s1.l).take (i+1))).getD k default):=fun k hk=>by
        have e:A3X b.ms.used ((C5 s1.l).take (i+1))=(A3X b.ms.used ((C5 s1.l).take i)).set (gI (C5 s1.l) i).toNat true:=I0 hi' _ _
        rw [e,D5R,A6m (by rw [B8x,hI.ok.ok.len];exact hr.2)]
        by_cases ej:k=(gI (C5 s1.l) i).toNat
        ·rw [if_pos ej,ej,A4]
        ·rw [if_neg ej,H1 ej];exact hg k hk
       conv=>whnf
       refine ⟨[4,5,6,11,12,13],[],[],.qui 0 (.qui 1 (.qui 2 (.qui 3 (.qui 7 (.qui 8 (.qui 9 (.qui 10 (.two 4 11 (.two 5 11 (.two 6 11 (.gen 11 (.gen 12 (.gen 13 (.qui 14 (.qui 15 .done))))) (.two 6 12 (.gen 12 (.gen 13 (.qui 14 (.qui 15 .done)))) (.gen 6 (.gen 13 (.qui 14 (.qui 15 .done)))))) (.two 5 12 (.two 6 12 (.gen 12 (.gen 13 (.qui 14 (.qui 15 .done)))) (.gen 6 (.gen 13 (.qui 14 (.qui 15 .done))))) (.gen 5 (.gen 6 (.gen 13 (.qui 14 (.qui 15 .done))))))) (.two 4 12 (.two 5 12 (.two 6 12 (.gen 12 (.gen 13 (.qui 14 (.qui 15 .done)))) (.gen 6 (.gen 13 (.qui 14 (.qui 15 .done))))) (.gen 5 (.gen 6 (.gen 13 (.qui 14 (.qui 15 .done)))))) (.gen 4 (.gen 5 (.gen 6 (.gen 13 (.qui 14 (.qui 15 .done))))))))))))))),by kernel_rfl,?_⟩;conv=>whnf
       refine E7 ?_
       refine E7 ?_
       repeat' (refine And.intro ?_ ?_<;>(conv=>whnf))
       all_goals refine RA.appA (all:=b.taken++(C5 s1.l).take i) (ls:=ls++X.take i) (y:=gI (C5 s1.l) i) hR2 rfl rfl (by rw [D5O,D5M];omega) (fun sva' t' hR3=>?_)
       all_goals (conv=>whnf)
       all_goals refine RA.appL (all:=b.taken++(C5 s1.l).take i++[gI (C5 s1.l) i]) (ls:=ls++X.take i) (y:=gI X i) hR3 rfl rfl (by rw [D5O,D5M];omega) (fun svl' t'' hR4=>?_)
       all_goals (conv=>whnf)
       all_goals refine ⟨rfl,?_⟩
       all_goals (conv=>whnf)
       all_goals exact nx hi' ⟨sva',svl',I3 g (0+(gI (C5 s1.l) i).toNat) (eB true),by rw [B4 (by omega)],by rw [tk _ hi',tk _ (by omega),←D7e,←D7e];exact hR4,hgn⟩
def A0J (l:List Int):List Int:=l.foldl (fun a x=>if x∈a then a else a++[x]) []
theorem B8b (l:List Int) (x:Int):A0J (l++[x])=if x∈A0J l then A0J l else A0J l++[x]:=by
 unfold A0J;rw [D7r];rfl
theorem B1s (l:List Int):(A0J l).Nodup∧∀ x,x∈A0J l↔x∈l:=by
 have:∀ (l a:List Int),a.Nodup→(l.foldl (fun a x=>if x∈a then a else a++[x]) a).Nodup∧∀ x,x∈l.foldl (fun a x=>if x∈a then a else a++[x]) a↔x∈a∨x∈l:=by
  intro l
  induction l with
  | nil=>intro a h;exact ⟨h,fun x=>by simp⟩
  | cons y l ih =>
   intro a h
   rw [D6U]
   split
   ·rename_i hy
    obtain ⟨h1,h2⟩:=ih a h
    refine ⟨h1,fun x=>?_⟩
    rw [h2,D7f]
    constructor
    ·rintro (h3 | h3)
     ·exact .inl h3
     ·exact .inr (.inr h3)
    ·rintro (h3 | rfl | h3)
     ·exact .inl h3
     ·exact .inl hy
     ·exact .inr h3
   ·rename_i hy
    obtain ⟨h1,h2⟩:=ih (a++[y]) (List.nodup_append.2 ⟨h,by simp,fun p hp q hq e=>by rw [D6h] at hq;subst hq;subst e;exact hy hp⟩)
    refine ⟨h1,fun x=>?_⟩
    rw [h2,D6T,D6h,D7f,or_assoc]
 obtain ⟨h1,h2⟩:=this l [] List.nodup_nil
 exact ⟨h1,fun x=>by rw [show x∈A0J l↔x∈([]:List Int)∨x∈l from h2 x];simp⟩
theorem B5A (l:List Int):X8 l=((List.range l.length).filter fun k=>k==0||gI l k != gI l (k - 1)).map (gI l):=by
 unfold X8 Go.Lib.compactUpTo
 have hg:∀ k,k<l.length→l.toArray[k]! = gI l k:=fun k hk=>by rw [getElem!_pos _ k (by simpa using hk)];simp [gI,hk]
 have hf:(List.range l.length).filter (Go.Lib.keeps l.toArray)=(List.range l.length).filter fun k=>k==0||gI l k != gI l (k - 1):=by
  refine List.filter_congr fun k hk=>?_
  have:=D5S.1 hk
  unfold Go.Lib.keeps
  rw [hg k this,hg (k - 1) (by omega)]
  rw [←D7M,D5E,D6K,D6z,D8h]
 rw [hf]
 exact D6V fun k hk=>hg k (D5S.1 (D6G.1 hk).1)
theorem B7v {l:List Int} (hs:l.Pairwise (·≤·)):(X8 l).Nodup∧∀ x,x∈X8 l↔x∈l:=by
 refine ⟨?_,fun x=>⟨B3f,fun hx=>?_⟩⟩
 ·rw [B5A]
  refine List.Pairwise.map _ (fun a b h=>h) ?_ 
  refine List.Pairwise.imp_of_mem (R:=(·<·)) ?_ ((List.pairwise_lt_range (n:=l.length)).filter _)
  intro a b ha hb hab
  obtain ⟨h1,h2⟩:=D6G.1 hb
  have h3:=D5S.1 h1
  rw [D6K,D6z,D8h] at h2
  have h4:gI l (b - 1)≤gI l b:=B3y hs (by omega) h3
  have h5:gI l a≤gI l (b - 1):=by
   rcases D8F (show a≤b - 1 by omega) with e | e
   ·rw [e];exact D6i _
   ·exact B3y hs e (by omega)
  show gI l a≠gI l b
  rcases h2 with h2 | h2<;>omega
 ·rw [B5A,D5X]
  obtain ⟨k,hk,rfl⟩:=D3 hx
  induction k with
  | zero=>exact ⟨0,D6G.2 ⟨D5S.2 hk,rfl⟩,rfl⟩
  | succ k ih =>
   by_cases e:gI l (k+1)=gI l k
   ·have:=ih (by omega) (by rw [show l.getD k default=l.getD (k+1) default from e.symm];exact hx)
    obtain ⟨j,h1,h2⟩:=this
    exact ⟨j,h1,h2.trans e.symm⟩
   ·exact ⟨k+1,D6G.2 ⟨D5S.2 hk,by rw [D6K,D8h];exact .inr e⟩,rfl⟩
theorem C3v (us:List B2) (l:List Int):A1R us (X8 (C5 l))=A1R us (A0J l):=by
 obtain ⟨h1,h2⟩:=B7v (B6P l)
 obtain ⟨h3,h4⟩:=B1s l
 have hp:(X8 (C5 l)).Perm (A0J l):=(List.perm_ext_iff_of_nodup h1 h3).2 fun x=>by rw [h2,h4,U9]
 exact A6X (hp.map _)
theorem C0Z (l:List Int):(A0J l).length≤l.length:=by
 have:∀ (l a:List Int),(l.foldl (fun a x=>if x∈a then a else a++[x]) a).length≤a.length+l.length:=by
  intro l
  induction l with
  | nil=>intro a;simp
  | cons y l ih =>
   intro a
   rw [D6U]
   split
   ·have:=ih a;rw [D6p];omega
   ·have:=ih (a++[y]);rw [D5O,D6p,D6W] at this;rw [D6p];omega
 have h:=this l []
 rw [D6W,D5R] at h;exact h
structure PSm (p:B1):Prop where
 sm:A2T p
 right:G9 p=true
 fit:Q9 p
set_option maxHeartbeats 400000 in
theorem C8r (items:List Ab.Item) (us:List B2) (pr:B1) (hp:PSm pr) (hk:pr.kind≠7) (hu:A7b items us) (st:St) :
  S P 164 [B7 pr,C6 us,A8 4 E5 items] st fun v st'=>(∃ x,v=.tuple [C6 x,eI (A0i items us pr).2]∧(0<(A0i items us pr).2→x=(A0i items us pr).1))∧st'=st:=by
 have ok:=A3L hp.right
 have hul:=hu.ok.len
 have hB:=ok.bun
 by_cases h4:pr.kind=4
 ·have hW:A0i items us pr=A1b items us pr:=by unfold A0i;rw [if_pos h4]
  rw [hW]
  obtain ⟨hbn,hbs⟩:=hB h4
  have hn8:=hbn.n8
  have hpl:(R4 items us pr).length=pr.parts.length:=D5H ..
  have hbP:A1b items us pr=if A1R us (A0J (A0w items us pr pr.parts.length))<pr.least then ([],0) else R7 pr us (R4 items us pr):=by unfold A1b;rw [C3v]
  refine A1S ?_
  refine F2 [3] Tryz.func164 ?_
  rw [show (pr.kind != 4)=false from by rw [h4];rfl];conv=>whnf
  refine mkO rfl rfl rfl (by show 1 * us.length≤_;omega) (by omega) (by rfl) (fun bs hbs0=>?_);conv=>whnf
  refine lp pr.parts.length [1,2,3,9,10,11,12] (fun i vs s=>∃ sv g,vs=[C6 us,A8 4 E5 items,.fptr (B7 pr) 0,sv,.own 1 bs 0 us.length,eI (A1R us (A0J (A0w items us pr i))),eI i]∧E0 29 1 B0 ((R4 items us pr).take i) (upd st bs ⟨4,1,us.length,g⟩) sv s∧∀ k,k<us.length→g k=eB (decide ((k:Int)∈A0w items us pr i))) ?_ ?_
  ·conv=>whnf
   exact ⟨.emp,_,rfl,E0.start _ _ _ _,fun k hk=>by rw [show A0w items us pr 0=[] from rfl];simp;rfl⟩
  ·rintro i vs s hi ⟨sv,g,rfl,hc,hg⟩
   conv=>whnf
   cases hd:decide ((i:Int)<(pr.parts.length:Int))
   ·obtain rfl:=C4 hd hi
    rw [←hpl,D5N] at hc;conv=>whnf
    refine B8 (fun h1=>?_) (fun h1=>?_)<;>rw [h1]
    ·have:=D5F h1
     rw [if_pos (by omega)] at hbP;conv=>whnf
     exact ⟨⟨us,by rw [hbP];rfl,fun h=>by rw [hbP] at h;exact absurd h (by decide)⟩,((E8.refl st).upd hbs0).trans hc.sup⟩
    ·have:=D5G h1
     rw [if_neg (by omega)] at hbP;conv=>whnf
     refine F3 (A7.cons (t:=s) (A7.keep _ _) (A7.cons (t:=s) (A7.keep _ _) hc.shift)) (B3 (C1n pr us (R4 items us pr) hp.sm hp.right h4 hbn hu.ok hpl (fun x hx=>by obtain ⟨q,_,rfl⟩:=D5X.1 hx;exact A1D _ _ _) _) ?_);conv=>whnf
     exact ⟨⟨_,by rw [hbP];rfl,fun _=>by rw [hbP]⟩,(E8.refl st).upd hbs0⟩
   ·have hi':=D8 hd
    have hsc:(pr.parts.getD (i:Int).toNat default).scope.skus.length≤20∧(pr.parts.getD (i:Int).toNat default).scope.cats.length≤20:=hbs _ (A6 hi')
    have hsu:=A8V items us pr hi'
    have hAl:=B0H items us pr i hi
    have hAm:=fun {x} (hx:x∈A0w items us pr i)=>B0I hx
    have hml:=A3d (pr.parts.getD (i:Int).toNat default).scope items us us.length
    have hmo:=A1D (pr.parts.getD (i:Int).toNat default).scope items us
    have hpt:(R4 items us pr).take (i+1)=(R4 items us pr).take i++[J8 (pr.parts.getD (i:Int).toNat default).scope items us us.length]:=by
     rw [K4 (by omega)];congr 2
     exact D4 (fun x:A2n=>J8 x.scope items us us.length) pr.parts hi'
    rw [show J8 (pr.parts.getD i default).scope items us us.length=J8 (pr.parts.getD (i:Int).toNat default).scope items us us.length from rfl] at hsu
    have h8:i * us.length≤7 * 100000:=Nat.mul_le_mul (by omega) hul
    conv=>whnf
    refine E7 ?_
    refine B3 (B9K us items (pr.parts.getD (i:Int).toNat default).scope (by omega) (by omega) hul hu.line _) ?_
    generalize J8 (pr.parts.getD (i:Int).toNat default).scope items us us.length=m at *
    conv=>whnf
    refine E0.app (q:=r29) (y:=m) rfl rfl rfl rfl rfl rfl (by show (_+1) * 24≤140737488355328;rw [D5M];omega) hc (fun sv s hc=>?_)
    rw [←hpt] at hc;conv=>whnf
    refine lp m.length [1,2,3,9,10,11,12,13,14] (fun k vs s=>∃ g,vs=[C6 us,A8 4 E5 items,.fptr (B7 pr) 0,sv,.own 1 bs 0 us.length,eI (A1R us (A0J (A0w items us pr i++m.take k))),eI i,B0 m,eI k]∧E0 29 1 B0 ((R4 items us pr).take (i+1)) (upd st bs ⟨4,1,us.length,g⟩) sv s∧∀ j,j<us.length→g j=eB (decide ((j:Int)∈A0w items us pr i++m.take k))) ?_ ?_
    ·conv=>whnf
     exact ⟨g,by rw [D7p,D7y];rfl,hc,by rw [D7p,D7y];exact hg⟩
    ·clear hc hg
     rintro k vs s hk ⟨g,rfl,hc,hg⟩
     conv=>whnf
     cases hd2:decide ((k:Int)<(m.length:Int))
     ·obtain rfl:=C4 hd2 hk
      rw [D5N,←hsu] at hg;conv=>whnf
      refine F7 ?_
      exact nx hi' ⟨sv,g,by rw [B4 (by omega),D5N,←hsu],hc,hg⟩
     ·have hk':=D8 hd2
      have hr:0≤m.getD (k:Int).toNat default∧(m.getD (k:Int).toNat default).toNat<us.length:=hmo.rng k hk'
      have hbk:=hc.sup bs _ (A0 ..)
      have hP:A0w items us pr i++m.take (k+1)=(A0w items us pr i++m.take k)++[m.getD (k:Int).toNat default]:=by rw [K4 hk',D7e];rfl
      have hgk:g (0+(m.getD (k:Int).toNat default).toNat)=eB (decide (m.getD (k:Int).toNat default∈A0w items us pr i++m.take k)):=by
       rw [D5R,hg _ hr.2];congr 2;rw [D7v hr.1]
      have hmem:∀ x∈A0w items us pr i++m.take k,0≤x∧x.toNat<us.length:=fun x hx=>by
       rcases D6T.1 hx with hx | hx
       ·exact B0I hx
       ·obtain ⟨j,hj,rfl⟩:=D3 (D6H _ _ hx);exact hmo.rng j hj
      obtain ⟨o1,o2⟩:=B1s (A0w items us pr i++m.take k)
      have hcb:=A1q hu.ok (A0J (A0w items us pr i++m.take k)) (fun x hx=>hmem x ((o2 x).1 hx))
      have hol:=C0Z (A0w items us pr i++m.take k)
      rw [D5O,D5M] at hol
      have hcl:A1R us (A0J (A0w items us pr i++m.take k))=H9 us (A0J (A0w items us pr i++m.take k)):=rfl
      have hsn:=B8b (A0w items us pr i++m.take k) (m.getD (k:Int).toNat default)
      have hdm:decide (m.getD (k:Int).toNat default∈A0J (A0w items us pr i++m.take k))=decide (m.getD (k:Int).toNat default∈A0w items us pr i++m.take k):=D7t.2 (o2 _)
      have hn0:0≤(gU us (m.getD (k:Int).toNat default).toNat).net:=hu.ok.at0 _
      have hn1:(gU us (m.getD (k:Int).toNat default).toNat).net≤10000000000000:=hu.ok.le (A6 hr.2)
      generalize A0w items us pr i++m.take k=A at *
      conv=>whnf
      refine E7 ?_
      refine E7 ?_
      refine J0 hbk hgk ?_
      refine B8 (fun h5=>?_) (fun h5=>?_)<;>rw [h5]
      ·have hnot:¬ m.getD (k:Int).toNat default∈A:=by simpa using h5
       rw [if_neg (fun h=>hnot ((o2 _).1 h))] at hsn
       have hadd:A1R us (A0J (A++[m.getD (k:Int).toNat default]))=A1R us (A0J A)+(gU us (m.getD (k:Int).toNat default).toNat).net:=by
        rw [hsn];exact B3h us _ _
       have w:IntKind.i64.wrap (A1R us (A0J A)+(gU us (m.getD (k:Int).toNat default).toNat).net)=A1R us (A0J (A++[m.getD (k:Int).toNat default])):=by rw [hadd];exact A5 (by omega) (by omega)
       conv=>whnf
       refine E7 ?_
       refine E7 ?_
       refine stU hbk hgk ?_
       have hc2:=Col.write hc (y':=⟨4,1,us.length,I3 g (0+(m.getD (k:Int).toNat default).toNat) (eB true)⟩) (A0 ..)
       rw [C0] at hc2;conv=>whnf
       refine E7 ?_
       refine E7 ?_
       refine F7 ?_
       refine nx hk' ⟨I3 g (0+(m.getD (k:Int).toNat default).toNat) (eB true),by rw [B4 (by omega),hP,←w],hc2,fun j hj=>?_⟩
       rw [hP,D5R]
       by_cases ej:j=(m.getD (k:Int).toNat default).toNat
       ·rw [ej,A4,D6m (by rw [D6T,D6h];right;omega)]
       ·rw [H1 ej,hg j hj]
        congr 1
        refine D7t.2 ?_
        rw [D6T,D6h]
        exact ⟨.inl,fun h=>h.resolve_right (by omega)⟩
      ·have hin:m.getD (k:Int).toNat default∈A:=by simpa using h5
       rw [if_pos ((o2 _).2 hin)] at hsn;conv=>whnf
       refine F7 ?_
       refine nx hk' ⟨g,by rw [B4 (by omega),hP,hsn],hc,fun j hj=>?_⟩
       rw [hP,hg j hj]
       congr 1
       refine D7t.2 ?_
       rw [D6T,D6h]
       exact ⟨.inl,fun h=>h.elim id (fun e=>by rw [e];exact hin)⟩
 ·have hW:A0i items us pr=A2j items us pr:=by unfold A0i;rw [if_neg h4]
  have hmo:=A1D pr.scope items us
  have hml:=A3d pr.scope items us us.length
  have hS:A2j items us pr=if A1R us (J8 pr.scope items us us.length)<pr.least then ([],0) else if pr.kind=3 then W5 pr us (J8 pr.scope items us us.length) else Z9 pr us (J8 pr.scope items us us.length):=rfl
  obtain ⟨hn0,hns⟩:=B1q hu.ok hmo
  rw [hW]
  refine F2 [3] Tryz.func164 ?_
  rw [show (pr.kind != 4)=true from D8h.2 h4];conv=>whnf
  refine B3 (B9K us items pr.scope (by have:=ok.skus;omega) (by have:=ok.cats;omega) hul hu.line _) ?_
  generalize J8 pr.scope items us us.length=m at *
  conv=>whnf
  refine ⟨[],[],List.range 7,by kernel_rfl,?_⟩;conv=>whnf
  refine cqW (A6R us m (by omega) hmo.rng _) ?_
  refine cqW (A9w (E2 us m) (by rw [A5b];omega) hn0 (by omega) _) ?_
  refine B8 (fun h1=>?_) (fun h1=>?_)<;>rw [h1]
  ·have h2:A1R us m<pr.least:=D5F h1
   rw [if_pos h2] at hS;conv=>whnf
   exact ⟨⟨us,by rw [hS];rfl,fun h=>by rw [hS] at h;exact absurd h (by decide)⟩,rfl⟩
  ·have h2:¬ A1R us m<pr.least:=fun h=>absurd h (Int.not_lt.2 (Int.not_lt.1 (D5G h1)))
   rw [if_neg h2] at hS;conv=>whnf
   by_cases h3:pr.kind=3
   ·rw [if_pos h3] at hS
    rw [show (pr.kind==3)=true from D6z.2 h3];conv=>whnf
    refine I5 (C1o pr us m hp.sm hp.right h3 (ok.buy h3) hu.ok hmo _) ?_
    exact ⟨⟨_,by rw [hS];rfl,fun _=>by rw [hS]⟩,rfl⟩
   ·rw [if_neg h3] at hS
    rw [show (pr.kind==3)=false from D7u h3];conv=>whnf
    refine I5 (C3U pr us m (ok.ask hp.fit (by have:=ok.kind;omega)) hp.sm hu.ok hmo _) ?_
    exact ⟨⟨_,by rw [hS];rfl,fun _=>by rw [hS]⟩,rfl⟩
theorem B6G (L:List C8) (g:C8) (hl:L.length≤1000) (sv:AV) (st:St) (h:(sv=.emp∧L=[])∨∃ b f,sv=.own 1 b 0 L.length∧st b=some ⟨9,1,L.length,f⟩∧∀ k,k<L.length→f k=eS (L.getD k default)) :
  S P 163 [sv,eS g] st fun v st'=>v=.bool (!N3 g&&L.any fun y=>y.toList==g.toList)∧st'=st:=by
 rcases h with ⟨rfl,rfl⟩ | ⟨b,f,rfl,hb,hf⟩
 ·refine F2 [] Tryz.func163 ?_
  refine B1r [0,1,5] ?_;conv=>whnf
  intro I;conv=>whnf
  exact ⟨by simp [B0c],rfl⟩
 ·refine F2 [] Tryz.func163 ?_
  refine lp L.length [0,1,5] (fun i vs s=>(∀ k,k<i→(!N3 g&&((L.getD k default).toList==g.toList))=false)∧vs=[.own 1 b 0 L.length,eS g,eI i]∧s=st) ?_ ?_
  ·conv=>whnf
   exact ⟨fun k hk=>absurd hk (by omega),rfl,rfl⟩
  ·rintro i vs st' hi ⟨hok,rfl,rfl⟩
   conv=>whnf
   cases hd:decide ((i:Int)<(L.length:Int))
   ·obtain rfl:=C4 hd hi
    conv=>whnf
    refine ⟨?_,rfl⟩
    have e:(!N3 g&&L.any fun y=>y.toList==g.toList)=false:=by
     cases hn:N3 g
     ·rw [D6k,D5T]
      refine D6E.2 fun x hx=>?_
      obtain ⟨k,hk,rfl⟩:=D3 hx
      have:=hok k hk
      rw [hn,D6k,D5T] at this
      rw [this];simp
     ·rfl
    rw [e];rfl
   ·have hi':=D8 hd
    have hfi:f (0+(i:Int).toNat)=eS (L.getD (i:Int).toNat default):=by rw [D5R];exact hf _ (by omega)
    have yes:=fun h=>H8 hok (i:=i) h
    have nl:N3 g=(g.toList==(⟨#[]⟩:C8).toList):=rfl
    conv=>whnf
    refine B8 (fun h1=>?_) (fun h1=>?_)<;>rw [h1]
    ·have hn:N3 g=false:=by rw [nl];simpa using h1
     conv=>whnf
     refine E7 ?_
     refine J0 hb hfi ?_
     refine B8 (fun h2=>?_) (fun h2=>?_)<;>rw [h2]
     ·conv=>whnf
      refine ⟨?_,rfl⟩
      rw [hn,D7i.2 ⟨_,A6 hi',h2⟩];rfl
     ·conv=>whnf
      refine F7 ?_
      exact nx hi' ⟨yes (by rw [hn];exact h2),by rw [B4 (by omega)],rfl⟩
    ·have hn:N3 g=true:=by rw [nl];simpa using h1
     conv=>whnf
     refine F7 ?_
     exact nx hi' ⟨yes (by rw [hn];rfl),by rw [B4 (by omega)],rfl⟩
structure B5n (l:List B1):Prop where
 few:l.length≤60
 right:∀ p∈l,G9 p=true
 ids:∀ i j,i<j→j<l.length→((l.getD i default).id.toList==(l.getD j default).id.toList)=false
theorem B1F {l:List B1} (h:promosC l=true):B5n l:=by
 unfold promosC L4 at h
 simp only [D5I,D5E,D5Y,D5S] at h
 obtain ⟨h1,h2⟩:=h
 refine ⟨by omega,fun p hp=>?_,fun i j hij hj=>?_⟩
 ·obtain ⟨k,hk,rfl⟩:=D3 hp
  have:=h2 k hk
  unfold W6 at this
  rw [D5I] at this;exact this.1
 ·have:=h2 j hj
  unfold W6 at this
  rw [D5I,D5W,D6E] at this
  have h3:=this.2 (l.getD i default) (by
   have:(l.take j).getD i default=l.getD i default:=by rw [D5C,D5C,D5Q hij]
   rw [←this]
   exact A6 (by rw [D5M];omega))
  simpa using h3
theorem B1E {l:List B1} {i:Nat} (hi:i<l.length) (h:W6 l i (l.getD i default)=false):promosC l=false:=by
 unfold promosC
 rw [D7L]
 refine .inr (D7s.2 fun ha=>?_)
 unfold L4 at ha
 rw [D5Y] at ha
 have:=ha i (D5S.2 hi)
 rw [this] at h;cases h
theorem C1p (l:List B1) (hn:l.length<9223372036854775807) (hs:∀ p∈l,A2T p) (st:St):S P 134 [A8 15 B7 l] st fun v st'=>v=.bool (promosC l)∧st'=st:=by
 refine F2 [] Tryz.func134 ?_
 refine lp l.length [0,3] (fun i vs st'=>vs=[A8 15 B7 l,eI i]∧st'=st∧∀ k,k<i→W6 l k (l.getD k default)=true) ?_ ?_
 ·conv=>whnf
  exact ⟨rfl,rfl,fun k hk=>absurd hk (by omega)⟩
 ·rintro i vs st' hi ⟨rfl,rfl,hok⟩
  conv=>whnf
  cases h:decide ((i:Int)<(l.length:Int))
  ·obtain rfl:=C4 h hi
   conv=>whnf
   refine ⟨?_,rfl⟩
   show AV.bool _=AV.bool _
   unfold promosC
   rw [L0 hok,D6w]
  ·have hi':=D8 h
   have hm:l.getD (i:Int).toNat default∈l:=A6 hi'
   conv=>whnf
   refine E7 ?_
   refine B3 (B6v (l.getD (i:Int).toNat default) (hs _ hm) _) ?_
   obtain ⟨b,hb⟩:∃ b,b=G9 (l.getD (i:Int).toNat default):=⟨_,rfl⟩
   rw [←hb];conv=>whnf
   refine B8 (fun h1=>?_) (fun h1=>?_)<;>rw [h1]
   ·conv=>whnf
    refine ⟨?_,rfl⟩
    have:promosC l=false:=B1E hi' (by
     unfold W6
     rw [show G9 (l.getD i default)=false by rw [show i=(i:Int).toNat from rfl,←hb];simpa using h1];rfl)
    rw [this];rfl
   have hp:G9 (l.getD i default)=true:=by rw [show i=(i:Int).toNat from rfl,←hb];simpa using h1
   conv=>whnf
   refine lp i [0,3,4] (fun j vs s=>vs=[A8 15 B7 l,eI i,eI j]∧s=st'∧∀ k,k<j→((l.getD k default).id.toList==(l.getD i default).id.toList)=false) ?_ ?_
   ·conv=>whnf
    exact ⟨rfl,rfl,fun k hk=>absurd hk (by omega)⟩
   ·rintro j vs s hj ⟨rfl,rfl,hne⟩
    conv=>whnf
    cases h2:decide ((j:Int)<(i:Int))
    ·obtain rfl:=C4 h2 hj
     conv=>whnf
     refine F7 ?_
     refine nx hi' ⟨by rw [B4 (by omega)],rfl,fun k hk=>?_⟩
     by_cases e:k<j
     ·exact hok k e
     ·obtain rfl:k=j:=by omega
      unfold W6
      rw [hp,D5T,D5W,D6E]
      intro x hx
      obtain ⟨m,hm',rfl⟩:=D3 hx
      rw [D5M] at hm'
      have e2:(l.take k).getD m default=l.getD m default:=by rw [D5C,D5C,D5Q (by omega)]
      rw [e2,hne m (by omega)];exact Bool.false_ne_true
    ·have hj':=D8 h2
     conv=>whnf
     refine ⟨[],[],List.range 11,by kernel_rfl,?_⟩;conv=>whnf
     refine E7 ?_
     refine E7 ?_
     refine B8 (fun h3=>?_) (fun h3=>?_)<;>rw [h3]
     ·conv=>whnf
      refine ⟨?_,rfl⟩
      have h4:((l.getD j default).id.toList==(l.getD i default).id.toList)=true:=h3
      have:promosC l=false:=B1E hi' (by
       unfold W6
       rw [hp,D5T,D6l]
       refine D7i.2 ⟨l.getD j default,?_,h4⟩
       have e2:(l.take i).getD j default=l.getD j default:=by rw [D5C,D5C,D5Q (by omega)]
       rw [←e2]
       exact A6 (by rw [D5M];omega))
      rw [this];rfl
     have h4:((l.getD j default).id.toList==(l.getD i default).id.toList)=false:=h3
     conv=>whnf
     refine F7 ?_
     exact nx hj' ⟨by rw [B4 (by omega)],rfl,fun k hk=>by
      by_cases e:k<j
      ·exact hne k e
      ·obtain rfl:k=j:=by omega
       exact h4⟩
structure A7T (r:G7):Prop where
 n:Sm r.items.length
 items:∀ x∈r.items,Sm x.sku.size∧Sm x.cat.size
 promos:∀ p∈r.promos,A2T p
 tax:B2V r.tax
 order:Sm r.policy.order.length
 credit:Sm r.policy.credit.length
theorem C3Z (r:G7) (hn:r.promos.length<9223372036854775807) (hs:A7T r) (st:St):S P 81 [H3 r] st fun v st'=>v=.bool (V8 r)∧st'=st:=by
 obtain ⟨H,hH⟩:∃ H:Bool,H=V8 r:=⟨_,rfl⟩
 rw [←hH]
 unfold V8 A9O A6O at hH
 have n1:=C3W r.items hs.n hs.items st
 have n2:=C1p r.promos hn hs.promos st
 have n3:=C4a r.tax hs.tax st
 have n4:=A2N r.ship.fee 1000000000 st
 have n5:=A2N r.ship.free 10000000000000 st
 have n6:=A2N r.policy.window 100000 st
 have n7:=A2N r.policy.grace 100000 st
 have n8:=A2N r.policy.restock 10000 st
 have n9:=B6D r.policy.order hs.order st
 have n10:=B6D r.policy.credit hs.credit st
 generalize A1B r.items=b1 at *
 generalize promosC r.promos=b2 at *
 generalize taxC r.tax=b3 at *
 generalize O7 0 1000000000 r.ship.fee=b4 at *
 generalize O7 0 10000000000000 r.ship.free=b5 at *
 generalize O7 0 100000 r.policy.window=b6 at *
 generalize O7 0 100000 r.policy.grace=b7 at *
 generalize O7 0 10000 r.policy.restock=b8 at *
 generalize A1i r.policy.order=b9 at *
 generalize A1i r.policy.credit=b10 at *
 refine SyW [1,3] Tryz.func81 ?_
 repeat' ((conv=>whnf);first | refine B3 n1 ?_ | refine B3 n2 ?_ | refine B3 n3 ?_ | refine B3 n4 ?_ | refine B3 n5 ?_ | refine B3 n6 ?_ | refine B3 n7 ?_ | refine B3 n8 ?_ | refine B3 n9 ?_ | refine B3 n10 ?_ | (refine B8 (fun h=>?_) (fun h=>?_)<;>rw [h]))
 all_goals (conv=>whnf)
 all_goals (refine ⟨?_,rfl⟩;show AV.bool _=AV.bool _;congr 1;clear n1 n2 n3 n4 n5 n6 n7 n8 n9 n10)
 all_goals (simp only [*,D5T,D6b,D6w,D6j,D6t,D6u,D6x,D6q,D6r,D6k,D6X])
theorem B1M (r:G7) (hs:A7T r) (hC:V8 r=true) (st:St):S P 81 [H3 r] st fun v st'=>v=.bool true∧st'=st:=by
 have h:=C3Z r (by
  unfold V8 at hC
  simp only [D5I] at hC
  have:=(B1F hC.1.1.1.2).few;omega) hs st
 rw [hC] at h;exact h
theorem B6s (l:List C8) (hl:Sm l.length) (hs:∀ s∈l,Sm s.size) (st:St):S P 75 [C9 l] st fun v st'=>v=.bool (S7 l)∧st'=st:=by
 have e:S7 l=(A0Q l&&decide ((l.length:Int)≤4)):=by
  unfold S7 A0Q
  generalize decide ((l.length:Int)≤4)=a
  generalize A0q l=b
  generalize (l.any fun s=>!D0 s)=c
  cases a<;>cases b<;>cases c<;>rfl
 rw [e]
 refine F2 [] Tryz.func75 ?_
 refine I5 (B1T l 4 hl hs st) ?_
 exact ⟨rfl,rfl⟩
def V0 (l:List B1) (codes:List C8):List Int:=(places l codes l.length).mergeSort fun x y=>!A0N (E9 l y) (E9 l x)
theorem A4s (l:List B1) (codes:List C8):(V0 l codes).Perm (places l codes l.length):=D8s ..
theorem C3E (l:List B1) (codes:List C8):(V0 l codes).Pairwise (A4e l):=by
 have:=D7V (le:=fun x y:Int=>!A0N (E9 l y) (E9 l x)) (fun a b c h1 h2=>by simp only [D5W] at *;exact A8o h1 h2) (fun a b=>by
  cases h:A0N (E9 l b) (E9 l a) with
  | false=>rfl
  | true=>rw [A9C h];rfl) (places l codes l.length)
 exact this.imp (fun h=>by simpa [A4e] using h)
theorem B8l {l:List B1} (ok:B5n l) {x y:Int} (hx:0≤x∧x.toNat<l.length) (hy:0≤y∧y.toNat<l.length) (h1:A4e l x y) (h2:A4e l y x):x=y:=by
 unfold A4e at h1 h2
 rw [←D6D,A3j] at h1 h2
 have e:(E9 l x).prio=(E9 l y).prio:=by
  have a:¬(E9 l y).prio>(E9 l x).prio:=fun h=>h1 (.inl h)
  have b:¬(E9 l x).prio>(E9 l y).prio:=fun h=>h2 (.inl h)
  omega
 have a:slt (E9 l y).id (E9 l x).id=false:=by rw [←D6D];exact fun h=>h1 (.inr ⟨e.symm,h⟩)
 have b:slt (E9 l x).id (E9 l y).id=false:=by rw [←D6D];exact fun h=>h2 (.inr ⟨e,h⟩)
 have c:=A6U a b
 rcases Nat.lt_trichotomy x.toNat y.toNat with h | h | h
 ·have:=ok.ids _ _ h hy.2
  rw [D6o] at this
  exact absurd c.symm this
 ·omega
 ·have:=ok.ids _ _ h hx.2
  rw [D6o] at this
  exact absurd c this
theorem B5X {l:List B1} (hC:promosC l=true) {codes:List C8} {o:List Int} (h1:o.Perm (places l codes l.length)) (h2:o.Pairwise (A4e l)):o=V0 l codes:=by
 refine (h1.trans (A4s l codes).symm).eq_of_pairwise (le:=A4e l) (fun a b ha hb h3 h4=>?_) h2 (C3E l codes)
 exact B8l (B1F hC) (A0F (h1.mem_iff.1 ha)) (A0F ((A4s l codes).mem_iff.1 hb)) h3 h4
theorem C1w (l:List B1) (codes:List C8) (hC:promosC l=true) (hc:Sm codes.length) (st:St):S P 162 [A8 15 B7 l,C9 codes] st fun v st'=>v=B0 (V0 l codes)∧st'=st :=
 (C4f l codes (by have:=(B1F hC).few;omega) hc st).mono fun v st' ⟨⟨o,h1,h2,h3⟩,h4⟩=>⟨by rw [h3,B5X hC h1 h2],h4⟩
theorem B6C {l:List B1} (hC:promosC l=true) {codes:List C8} {o:List Int} (ho:A8P l codes o):P5 l o=V0 l codes:=by
 refine B5X hC ((B3B l o).trans ho.1) ?_
 refine List.Pairwise.map _ (fun a b h=>h) (R:=fun a b:QE=>A4e l (gI o a.2.toNat) (gI o b.2.toNat)) ?_
 refine (A7j l o).imp_of_mem fun {a b} ha hb h=>?_
 have h1:=A5f ha
 have h2:=A5f hb
 obtain ⟨i,hi,rfl⟩:=D5X.1 ((A1t l o).mem_iff.1 ha)
 obtain ⟨j,hj,rfl⟩:=D5X.1 ((A1t l o).mem_iff.1 hb)
 rw [S5] at h
 simp only [B1N,D5P] at h h1 h2 ⊢
 unfold A4e
 rw [←D6D,A3j]
 rintro (h3 | ⟨h3,h4⟩)
 ·exact h (.inl h3)
 ·rcases Nat.lt_trichotomy i j with e | e | e
  ·have:=ho.2 i j (D6e _) e h2.2
   unfold C5N at this
   rw [this] at h4;cases h4
  ·subst e;rw [A5h] at h4;cases h4
  ·exact h (.inr ⟨h3,by omega⟩)
theorem C6v (x m:Int) (st:St):S P 76 [eI x,eI m] st fun v st'=>v=.bool (O7 0 m x)∧st'=st:=by
 refine F2 [] Tryz.func76 ?_
 unfold O7
 refine B8 (fun h=>?_) (fun h=>?_)<;>rw [h]<;>(conv=>whnf)<;>exact ⟨rfl,rfl⟩
def C7k (l:List A2A):Int:=if (l.all tenderB&&decide ((l.length:Int)≤6))=true then A2r l else 0
def C3h (o:T9):Bool:=D0 o.id&&D0 o.zone&&(decide (o.rules≥1)&&decide (o.rules≤40))&&S7 o.codes&&O7 0 100000 o.day&&(decide ((o.lines.length:Int)≥1)&&decide ((o.lines.length:Int)≤1000))
theorem C1a (o:T9):A0R o=(C3h o&&o.lines.all A1T&&A1w o&&(A5M o.book&&(A0h o.book==o.net)&&(o.tenders.all tenderB&&decide ((o.tenders.length:Int)≤6))&&(C7k o.tenders==o.net))):=by
 have e:A0R o=(decide ((o.tenders.length:Int)≤6)&&A9J o&&A3n o&&A1w o&&A5L o&&A0s o):=rfl
 have h1:A9J o=(D0 o.id&&D0 o.zone&&(decide (o.rules≥1)&&decide (o.rules≤40))&&S7 o.codes&&O7 0 100000 o.day):=rfl
 rw [e,h1]
 unfold A3n A5L A0s C3h C7k
 generalize decide ((o.tenders.length:Int)≤6)=a1
 generalize o.tenders.all tenderB=a2
 generalize o.lines.all A1T=a3
 generalize A1w o=a4
 generalize A5M o.book=a5
 generalize (A0h o.book==o.net)=a6
 generalize decide ((o.lines.length:Int)≥1)=a7
 generalize decide ((o.lines.length:Int)≤1000)=a8
 generalize (D0 o.id&&D0 o.zone&&(decide (o.rules≥1)&&decide (o.rules≤40))&&S7 o.codes&&O7 0 100000 o.day)=a9
 cases a1<;>cases a2<;>simp only [D6w,D6j,D5T,D6b,if_true]<;>generalize (A2r o.tenders==o.net)=b<;>cases a3<;>cases a4<;>cases a5<;>cases a6<;>cases a7<;>cases a8<;>cases a9<;>cases b<;>rfl
theorem C0S {t k:Int} (ht:0≤t∧t≤10000000000000) (hk:0≤k∧k≤100000):0≤t * k∧t * k≤1000000000000000000:=by
 refine ⟨D7d ht.1 hk.1,?_⟩
 have h1:t * k≤10000000000000 * k:=D7C ht.2 hk.1
 omega
theorem C4M (t n k:Int) (ht:0≤t∧t≤10000000000000) (hn:1≤n∧n≤100000) (hk:0≤k∧k≤n) (st:St):S P 65 [eI t,eI n,eI k] st fun v st'=>v=.tuple [eI (I8 t n k),eI 0]∧st'=st:=by
 have n1:=A5a t st
 rw [show K6 t=true from E3.2 ⟨by omega,by omega⟩] at n1
 have g1:decide (n<1)=false:=D5J (by omega)
 have g2:decide (n>100000)=false:=D5J (by omega)
 have g3:decide (k<0)=false:=D5J (by omega)
 have g4:decide (k>n)=false:=D5J (by omega)
 have w1:IntKind.u64.wrap t=t:=B5 (by omega) (by omega)
 have w2:IntKind.u64.wrap k=k:=B5 (by omega) (by omega)
 have w3:IntKind.u64.wrap n=n:=B5 (by omega) (by omega)
 have hm:=C0S ht (k:=k) ⟨hk.1,by omega⟩
 have w4:IntKind.u64.wrap (t * k)=t * k:=B5 hm.1 (by omega)
 have hu:=A0H ht.1 hn.1 hk.1 hk.2
 have w5:IntKind.u64.wrap ((t * k).tdiv n)=I8 t n k:=by rw [D6Y hm.1];exact B5 (x:=I8 t n k) hu.1 (by omega)
 have w6:IntKind.i64.wrap (I8 t n k)=I8 t n k:=A5 (by omega) (by omega)
 refine SyW [] Tryz.func65 ?_
 repeat' ((conv=>whnf);first | refine B3 n1 ?_ | rw [g1] | rw [g2] | rw [g3] | rw [g4])
 conv=>whnf
 rw [w3,D5J (show ¬ n=0 by omega)];conv=>whnf
 rw [w1,w2,w4,w5,w6]
 exact ⟨rfl,rfl⟩
theorem B8O (t n k:Int) (ht:0≤t∧t≤10000000000000) (hn:1≤n∧n≤100000) (hk:0≤k∧k≤n):W4 t k n 0=(I8 t n k,0):=by
 have h1:(Q5 t&&Q5 k&&Q5 n&&n != 0&&decide ((0:Int)≤0)&&decide ((0:Int)<3))=true:=by
  simp only [D5I,Y8,D8h,D5E]
  exact ⟨⟨⟨⟨⟨⟨by omega,by omega⟩,by omega,by omega⟩,by omega,by omega⟩,by omega⟩,by omega⟩,by omega⟩
 have hu:=A0H ht.1 hn.1 hk.1 hk.2
 unfold W4
 rw [h1,if_neg (by simp),if_neg (show ¬ t * k / n>100000000000000 by show ¬ I8 t n k>_;omega)]
 have e:S9 (t * k / n) (t * k % n) n 0=I8 t n k:=rfl
 rw [e,if_neg (by omega)]
theorem B9M (t n k:Int) (ht:0≤t∧t≤10000000000000) (hn:1≤n∧n≤100000) (hk:0≤k∧k≤n) (st:St):S P 73 [eI t,eI n,eI k] st fun v st'=>v=.tuple [eI (I8 t n k),eI 0]∧st'=st:=by
 have n1:=A1J t st
 rw [show Q5 t=true from (Y8 t).2 ⟨by omega,by omega⟩] at n1
 have n2:=A8D t k n 0 st
 rw [B8O t n k ht hn hk] at n2
 have g1:decide (n<1)=false:=D5J (by omega)
 have g2:decide (n>100000)=false:=D5J (by omega)
 have g3:decide (k<0)=false:=D5J (by omega)
 have g4:decide (k>n)=false:=D5J (by omega)
 generalize I8 t n k=Y at *
 refine SyW [] Tryz.func73 ?_
 repeat' ((conv=>whnf);first | refine B3 n1 ?_ | refine B3 n2 ?_ | rw [g1] | rw [g2] | rw [g3] | rw [g4])
 exact ⟨rfl,rfl⟩
def A7y (x:A2m):E4:=⟨x.sku,x.left,x.price⟩
theorem C4e (o:T9) (hl:o.lines.length≤100000) (st:St):S P 51 [W8 o] st fun v st'=>v=A8 3 H6 (C0N o)∧st'=st:=by
 refine A0L (ty:=137) ?_
 refine F2 [1,5] Tryz.func51 ?_
 refine lp o.lines.length [3,7,8,9] (fun i vs s=>∃ sv,vs=[sv,A8 6 Q7 o.lines,eI o.lines.length,eI i]∧E0 137 3 H6 ((o.lines.take i).map A7y) st sv s) ?_ ?_
 ·conv=>whnf
  exact ⟨.emp,rfl,E0.start _ _ _ _⟩
 rintro i vs s hi ⟨sv,rfl,hc⟩
 conv=>whnf
 cases h:decide ((i:Int)<(o.lines.length:Int))
 ·obtain rfl:=C4 h hi
  rw [D5N] at hc;conv=>whnf
  exact hc
 have hi':=D8 h
 have hln:((o.lines.take i).map A7y).length=i:=by rw [D5H,D5M];omega
 have htk:(o.lines.take (i+1)).map A7y=(o.lines.take i).map A7y++[A7y (o.lines.getD (i:Int).toNat default)]:=A1N hi' A7y
 conv=>whnf
 refine E7 ?_
 refine E0.app (q:=C3T) (y:=A7y (o.lines.getD (i:Int).toNat default)) rfl rfl rfl rfl rfl rfl (by rw [hln];show (i+1) * 32≤140737488355328;omega) hc (fun sv' s' hc'=>?_);conv=>whnf
 refine F7 ?_
 exact nx hi' ⟨sv',by rw [B4 (by omega)],by rw [htk];exact hc'⟩
def A8W (o:T9) (i:Nat):A4H:=⟨shG (o.lines.take i),shT (o.lines.take i),if M8 (o.lines.take i)=true then o.ship else 0,if M8 (o.lines.take i)=true then o.shipTax else 0,0⟩
theorem B3X {l:List A2m} {i:Nat} (hi:i<l.length):M8 (l.take (i+1))=(M8 (l.take i)||decide ((l.getD i default).left>0)):=by
 unfold M8;rw [K4 hi,List.any_append];simp
theorem C1C {l:List A2m} (hl:l.length≤1000) (hk:∀ x∈l,A1T x=true) (i:Nat):(0≤shG (l.take i)∧shG (l.take i)≤10000000000000000)∧(0≤shT (l.take i)∧shT (l.take i)≤10000000000000000):=by
 have hln:(l.take i).length≤1000:=by rw [D5M];omega
 have a:=B1u (f:=fun x:A2m=>I8 x.goods x.sold x.left) (M:=10000000000000) (by decide) (l.take i) (fun x hx=>by
  obtain ⟨_,_,h1,h2,h3,_⟩:=B1c (hk x (D6H _ _ hx))
  have:=A0H h3.1 h1.1 h2.1 h2.2
  exact ⟨this.1,by omega⟩) 0
 have b:=B1u (f:=fun x:A2m=>I8 x.tax x.sold x.left) (M:=10000000000000) (by decide) (l.take i) (fun x hx=>by
  obtain ⟨_,_,h1,h2,_,h3⟩:=B1c (hk x (D6H _ _ hx))
  have:=A0H h3.1 h1.1 h2.1 h2.2
  exact ⟨this.1,by omega⟩) 0
 unfold shG shT
 exact ⟨⟨by omega,by omega⟩,by omega,by omega⟩
set_option maxHeartbeats 2000000 in
theorem B3C (o:T9) (hs:B2U o) (st:St):S P 18 [W8 o] st fun v st'=>v=A5q (A3N o)∧st'=st:=by
 have n1:=fun s=>B6w o hs s
 have hB:A3N o=if A0R o=true then A8W o o.lines.length else ⟨0,0,0,0,0⟩:=by
  unfold A3N A8W;rw [D5N]
 have hO:A0R o=true→o.lines.length≤1000∧∀ x∈o.lines,A1T x=true:=fun h=>by
  rw [C1a] at h
  unfold C3h at h
  simp only [D5I,D5E,D5Y] at h
  exact ⟨by omega,h.1.1.2⟩
 generalize A0R o=b at *
 refine A1S ?_
 refine A8Q [1,5] B4k mixed Tryz.func18 (by rfl) rfl rfl rfl ?_;conv=>whnf
 intro b2 hb2;conv=>whnf
 intro b3 hb3
 have h23:b2≠b3:=fun e=>by subst e;rw [A0] at hb3;cases hb3
 have hs2:E8 st (upd st b2 ⟨47,5,1,fun _=>H2 r47.zero⟩):=(E8.refl st).upd hb2
 have hb3':st b3=none:=hs2.none hb3
 conv=>whnf
 refine B3 (n1 _) ?_
 cases b
 ·rw [if_neg (by simp)] at hB
  rw [hB];conv=>whnf
  refine J0 (A0 ..) rfl ?_
  refine Y9 (by rw [A9 h23];exact A0 ..) rfl ?_
  refine J0 (A0 ..) (A4 ..) ?_
  exact ⟨rfl,((hs2.upd hb3).over hb2)⟩
 rw [if_pos rfl] at hB
 obtain ⟨hl,hk⟩:=hO rfl
 rw [hB]
 clear hB n1 hO
 conv=>whnf
 refine lp o.lines.length [1,2,3,15,16,17] (fun i vs s=>vs=[.fptr (W8 o) 0,.optr 5 b2 0 0,.optr 5 b3 0 0,A8 6 Q7 o.lines,eI o.lines.length,eI i]∧∃ f3,s=upd (upd st b2 ⟨47,5,1,fun _=>H2 r47.zero⟩) b3 ⟨47,5,1,f3⟩∧f3 0=A5q (A8W o i)) ?_ ?_
 ·conv=>whnf
  exact ⟨rfl,_,rfl,rfl⟩
 rintro i vs s hi ⟨rfl,f3,rfl,hf3⟩
 conv=>whnf
 cases h:decide ((i:Int)<(o.lines.length:Int))
 ·obtain rfl:=C4 h hi
  generalize A8W o o.lines.length=Z at *
  conv=>whnf
  refine J0 (A0 ..) hf3 ?_
  refine Y9 (by rw [A9 h23];exact A0 ..) rfl ?_
  refine J0 (A0 ..) (A4 ..) ?_
  exact ⟨rfl,((hs2.upd hb3).over hb2)⟩
 have hi':=D8 h
 have hkx:=B1c (hk (o.lines.getD (i:Int).toNat default) (A6 hi'))
 obtain ⟨-,-,k1,k2,k3,k4⟩:=hkx
 have c1:=fun s=>C4M (o.lines.getD (i:Int).toNat default).goods (o.lines.getD (i:Int).toNat default).sold (o.lines.getD (i:Int).toNat default).left k3 k1 k2 s
 have c2:=fun s=>C4M (o.lines.getD (i:Int).toNat default).tax (o.lines.getD (i:Int).toNat default).sold (o.lines.getD (i:Int).toNat default).left k4 k1 k2 s
 have hin:=C1C hl hk i
 have u1:=A0H k3.1 k1.1 k2.1 k2.2
 have u2:=A0H k4.1 k1.1 k2.1 k2.2
 have sg:shG (o.lines.take (i+1))=shG (o.lines.take i)+I8 (o.lines.getD (i:Int).toNat default).goods (o.lines.getD (i:Int).toNat default).sold (o.lines.getD (i:Int).toNat default).left:=I0 hi' _ _
 have stt:shT (o.lines.take (i+1))=shT (o.lines.take i)+I8 (o.lines.getD (i:Int).toNat default).tax (o.lines.getD (i:Int).toNat default).sold (o.lines.getD (i:Int).toNat default).left:=I0 hi' _ _
 have sa:M8 (o.lines.take (i+1))=(M8 (o.lines.take i)||decide ((o.lines.getD (i:Int).toNat default).left>0)):=B3X hi'
 have w1:IntKind.i64.wrap (shG (o.lines.take i)+I8 (o.lines.getD (i:Int).toNat default).goods (o.lines.getD (i:Int).toNat default).sold (o.lines.getD (i:Int).toNat default).left)=shG (o.lines.take (i+1)):=by rw [sg];exact A5 (by omega) (by omega)
 have w2:IntKind.i64.wrap (shT (o.lines.take i)+I8 (o.lines.getD (i:Int).toNat default).tax (o.lines.getD (i:Int).toNat default).sold (o.lines.getD (i:Int).toNat default).left)=shT (o.lines.take (i+1)):=by rw [stt];exact A5 (by omega) (by omega)
 have hN:A8W o (i+1)=⟨shG (o.lines.take (i+1)),shT (o.lines.take (i+1)),if M8 (o.lines.take (i+1))=true then o.ship else 0,if M8 (o.lines.take (i+1))=true then o.shipTax else 0,0⟩:=rfl
 have hZ:A8W o i=⟨shG (o.lines.take i),shT (o.lines.take i),if M8 (o.lines.take i)=true then o.ship else 0,if M8 (o.lines.take i)=true then o.shipTax else 0,0⟩:=rfl
 rw [sa] at hN
 rw [hZ] at hf3
 generalize shG (o.lines.take (i+1))=G1 at *
 generalize shT (o.lines.take (i+1))=T1 at *
 generalize shG (o.lines.take i)=G0 at *
 generalize shT (o.lines.take i)=T0 at *
 generalize M8 (o.lines.take i)=a0 at *
 generalize I8 (o.lines.getD (i:Int).toNat default).goods (o.lines.getD (i:Int).toNat default).sold (o.lines.getD (i:Int).toNat default).left=Y1 at *
 generalize I8 (o.lines.getD (i:Int).toNat default).tax (o.lines.getD (i:Int).toNat default).sold (o.lines.getD (i:Int).toNat default).left=Y2 at *
 clear hin u1 u2 sg stt sa hZ
 conv=>whnf
 refine E7 ?_
 refine I5 (c1 _) ?_
 refine I5 (c2 _) ?_
 refine J0 (A0 ..) hf3 ?_
 rw [w1]
 refine stU (A0 ..) hf3 ?_
 rw [C0];conv=>whnf
 refine J0 (A0 ..) (A4 ..) ?_
 rw [w2]
 refine stU (A0 ..) (A4 ..) ?_
 rw [C0];conv=>whnf
 refine B8 (fun h5=>?_) (fun h5=>?_)<;>rw [h5] at hN ⊢
 ·rw [D6t] at hN;conv=>whnf
  refine .inr ⟨[5,7],.qui 0 (.qui 1 (.qui 2 (.qui 3 (.qui 4 (.eff 5 [3] (.qui 6 (.eff 7 [] (.done)))))))),by kernel_rfl,?_⟩;conv=>whnf
  refine ⟨_,fun _=>True,trivial,fun s _=>⟨rfl,rfl⟩,?_⟩;conv=>whnf
  refine ⟨_,fun _=>True,trivial,fun s _=>⟨rfl,rfl⟩,?_⟩;conv=>whnf
  refine stU (A0 ..) (A4 ..) ?_
  rw [C0];conv=>whnf
  refine ⟨fun _=>trivial,?_⟩;conv=>whnf
  refine stU (A0 ..) (A4 ..) ?_
  rw [C0];conv=>whnf
  refine F7 ?_
  exact nx hi' ⟨by rw [B4 (by omega)],_,rfl,by rw [A4,hN];rfl⟩
 ·rw [D6u] at hN;conv=>whnf
  refine F7 ?_
  exact nx hi' ⟨by rw [B4 (by omega)],_,rfl,by rw [A4,hN];rfl⟩
def aqZ:K5:=⟨⟨#[122]⟩,[],1000,0⟩
def aqI:List Ab.Item:=[⟨⟨#[97]⟩,⟨#[120]⟩,50,false⟩]
def aqR:G7:=⟨aqI,[],⟨false,false,0,[aqZ]⟩,⟨0,0⟩,⟨0,0,1,0,[],[]⟩⟩
def aqL:List E4:=[⟨⟨#[97]⟩,2,50⟩]
def aqA:List Add:=[⟨⟨#[97]⟩,2⟩]
def aqQ:Z1:=⟨[100],[10],0,0,110,[]⟩
theorem C2F:X2 aqI aqA=(aqL,0):=by kernel_rfl
theorem C2D:D7 aqR [] aqL=0:=by kernel_rfl
theorem C2G:A0b aqR aqL [] []=⟨[100],100,0,[]⟩:=by kernel_rfl
theorem C2E:A0S aqR:=⟨D6e _,fun p hp=>absurd hp D7j,by show 0<_;decide,by show 0<_;decide⟩
theorem B6B {codes:List C8} {o:List Int} (ho:A8P [] codes o):P5 [] o=[]:=List.perm_nil.1 ((B3B [] o).trans ho.1)
theorem C0k (st:St):S P 122 [H3 aqR,C9 [],A8 3 H6 aqL] st fun v st'=>v=.tuple [A1c ⟨[100],100,0,[]⟩,eI 0]∧st'=st :=
 (price_S B6R aqR [] aqL C2E (by decide) (by decide) (by decide) st).mono fun v s hv=>by
  obtain ⟨hv,rfl⟩:=hv
  refine ⟨?_,rfl⟩
  rcases hv with ⟨h,_⟩ | ⟨_,o1,o2,h1,h2,h3⟩
  ·exact absurd C2D h
  ·rw [show aqR.promos=[] from rfl] at h1 h2 h3
   rw [B6B h1,B6B h2,C2G] at h3
   exact h3
theorem B3Y:A2z aqR.tax aqZ (N2 aqR aqL) [100] 0:=by
 refine ⟨by kernel_rfl,by kernel_rfl,by kernel_rfl,⟨by decide,fun x hx=>?_,by decide⟩,by decide⟩
 rw [D6h.1 hx];decide
theorem C0l (st:St):S P 60 [H3 aqR,eS ⟨#[122]⟩,eB false,C9 [],A8 3 H6 aqL] st fun v st'=>v=.tuple [A0a aqQ,eI 0]∧st'=st:=by
 have hI:∀ st,S P 123 [A8 4 E5 aqR.items,A8 3 H6 aqL] st fun v s=>v=A8 4 E5 (C2 aqR.items aqL)∧s=st:=fun st=>A9h _ _ (by decide) (by decide) (fun x hx=>by rw [D6h.1 hx];kernel_rfl) st
 have h:=quote_S (r:=aqR) (codes:=[]) (l:=aqL) (Pr:=⟨[100],100,0,[]⟩) (z:=aqZ) (zone:=⟨#[122]⟩) false C0k hI (by decide) B3Y (by kernel_rfl) (fun st=>B5x aqR.tax _ _ (by decide) (by kernel_rfl) (fun x hx=>(A3x B3Y).2 x hx) st) (B3q B3Y false) st
 rw [show A9v aqR aqZ false aqL ⟨[100],100,0,[]⟩=aqQ by kernel_rfl] at h
 exact h
theorem B7t (l:List C8) (hl:l.length≤100000) (st:St):S P 62 [A8 1 eS l] st fun v st'=>E0 9 1 eS l st v st':=by
 refine SyW [] Tryz.func62 ?_
 cases l with
 | nil =>
  conv=>whnf
  refine ⟨?_,?_⟩
  ·conv=>whnf
   exact Col.start _ _ _ _
  ·conv=>whnf
   refine apE rfl rfl rfl rfl rfl (by show 0 * 16≤_;omega) (fun _=>?_) (fun h=>absurd h (by show ¬ 0<0;omega));conv=>whnf
   exact Col.start _ _ _ _
 | cons u us =>
  conv=>whnf
  refine Col.apps (n:=0) (m:=us.length+1) (q:=r9) (f:=fun k=>eS ((u::us).getD k default)) rfl rfl rfl rfl rfl (fun i hi=>by rw [D5R]) (by show (0+(us.length+1)) * 16≤140737488355328;simp only [D6p] at hl;omega) (Col.start _ _ _ _) (fun sv' st'' hc'=>?_);conv=>whnf
  rw [D5R] at hc'
  exact hc'
theorem B5y (l:List C8) (hl:l.length≤100000) (st:St):S P 62 [A8 1 eS l] st fun v st'=>v=A8 1 eS l∧st'=st:=A0L (B7t l hl st)
end Go.Proofs.YtaapofnkmpiknaaGreat
