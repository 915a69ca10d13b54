/- Part 25 of the proof: contracts of the functions that the law reaches -/
import Derived.Test.YtbajhapmlfbelaaGreatDe24
set_option maxRecDepth 100000
set_option linter.unusedVariables false
set_option linter.unusedSimpArgs false
namespace Go.Proofs.YtbajhapmlfbelaaGreat
open Go Go.Ab
attribute [local irreducible] upd del
def B5G (n:Int):E0:=(⟨#[103]⟩:E0)++V7 (48+C6 n 2)
def W4 (k:Int):E0:=(⟨#[122]⟩:E0)++V7 (48+k)
def W0 (x:Q0):Q0:=⟨O3 x.scope,1+C6 x.count 2⟩
def N4 (l:List Q0):List Q0:=if l.length=0 then [⟨⟨[],[]⟩,2⟩] else (l.take 3).map W0
def A2u (p:B2):Int:=1+C6 (IntKind.i64.wrap (p.kind - 1)) 7
def A1j (p:B2):E0:=if C6 (A2M p.group) 3=1 then B5G p.group.size else ⟨#[]⟩
def A2t (p:B2):E0:=if C6 (A2M p.code) 3=1 then A4c p.code.size else ⟨#[]⟩
def A2f (p:B2):Int:=if C6 p.least 3=1 then C6 p.least 9000 else 0
def M8 (p:B2) (id K:Int):B2 :=
 ⟨idN id,K,C6 p.prio 5,A1j p,A2t p,if K=7 then false else p.closes,if K=4∨K=7 then ⟨[],[]⟩ else O3 p.scope,A2f p,
 if K=1∨K=3∨K=7 then 1+C6 p.rate 10000 else 0,if K=2 then 1+C6 p.amount 900 else if K=4 then C6 p.amount 3000 else 0,
 if K=3 then 1+C6 p.buy 3 else 0,if K=3 then 1+C6 p.get 2 else 0,if K=4 then N4 p.parts else [],if K=5 then N5 p.tiers 5000 else if K=6 then N5 p.tiers 5 else []⟩
def A1k (p:B2) (id:Int):B2:=M8 p id (A2u p)
def B7Z (i:Nat):Int:=((i:Int) * 7+3) % 10
def U4 (l:List B2) (i:Nat):B2:=A1k (l.getD i default) (B7Z i)
def K2 (l:List B2):List B2:=(List.range (min l.length 6)).map (U4 l)
def A7e (l:List G8) (c:Nat):G8:=⟨A4n c,C6 (l.getD c default).rate 3000⟩
def Q1 (l:List G8):List G8:=(List.range (min 3 l.length)).map (A7e l)
def F0 (l:List U6) (k:Nat):U6 :=
 if k<l.length then ⟨W4 k,Q1 (l.getD k default).rates,C6 (l.getD k default).rest 3000,C6 (l.getD k default).ship 3000⟩ else ⟨W4 k,[],1000 * k,500 * k⟩
def K4 (t:Tax):Tax:=⟨t.incl,t.byOrder,C6 t.round 3,(List.range 3).map (F0 t.zones)⟩
def A9M (s:Ab.Ship):Ab.Ship:=⟨C6 s.fee 900,C6 s.free 3 * 4000⟩
def A6k (p:A4u):A4u:=⟨20+C6 p.window 60,C6 p.grace 40,1+C6 p.mode 3,C6 p.restock 3 * C6 p.restock 2500,K0 p.order,K0 p.credit⟩
def U0 (r:F9):F9:=⟨N3 r.items,K2 r.promos,K4 r.tax,A9M r.ship,A6k r.policy⟩
theorem C5u (n:Int):C6 n 2=0∨C6 n 2=1:=by
 have:=E7 n (n:=2) (by decide);omega
theorem C3E (n:Int):C6 n 3=0∨C6 n 3=1∨C6 n 3=2:=by
 have:=E7 n (n:=3) (by decide);omega
theorem C4n (n:Int):C6 n 10=0∨C6 n 10=1∨C6 n 10=2∨C6 n 10=3∨C6 n 10=4∨C6 n 10=5∨C6 n 10=6∨C6 n 10=7∨C6 n 10=8∨C6 n 10=9:=by
 have:=E7 n (n:=10) (by decide);omega
theorem le3 {n:Nat} (h:n≤3):n=0∨n=1∨n=2∨n=3:=by omega
theorem lt3 {n:Nat} (h:n<3):n=0∨n=1∨n=2:=by omega
theorem X9 {s:E0} (h:F1 s=true):s.size≤12:=by
 unfold F1 at h
 simp only [Bool.and_eq_true,decide_eq_true_eq] at h
 exact h.1.2
theorem B1A (n:Int):F1 (A0X n)=true:=by
 unfold A0X
 rcases C5t n with h | h | h | h | h | h | h | h<;>rw [h]<;>kernel_rfl
theorem A5r (n:Int):F1 (A4n n)=true:=by
 unfold A4n
 rcases C3E n with h | h | h<;>rw [h]<;>kernel_rfl
theorem A9e (n:Int):F1 (A4c n)=true:=by
 unfold A4c
 rcases C3E n with h | h | h<;>rw [h]<;>kernel_rfl
theorem A8f (n:Int):F1 (B5G n)=true:=by
 unfold B5G
 rcases C5u n with h | h<;>rw [h]<;>kernel_rfl
theorem B3R (n:Int):F1 (idN n)=true:=by
 unfold idN
 rcases C4n n with h | h | h | h | h | h | h | h | h | h<;>rw [h]<;>kernel_rfl
theorem B1p:A1G ⟨#[]⟩=true:=by kernel_rfl
theorem B4a {s:E0} (h:F1 s=true):A1G s=true:=by unfold A1G;rw [h,Bool.or_true]
theorem A8g (p:B2):A1G (A1j p)=true∧(A1j p).size≤12:=by
 unfold A1j;split
 ·exact ⟨B4a (A8f _),X9 (A8f _)⟩
 ·exact ⟨B1p,by decide⟩
theorem A9f (p:B2):A1G (A2t p)=true∧(A2t p).size≤12:=by
 unfold A2t;split
 ·exact ⟨B4a (A9e _),X9 (A9e _)⟩
 ·exact ⟨B1p,by decide⟩
theorem C0l (p:B2):0≤A2f p∧A2f p<9000:=by
 have:=E7 p.least (n:=9000) (by decide)
 unfold A2f;split<;>omega
theorem A4B:Y3 ⟨[],[]⟩=true∧A0J ⟨[],[]⟩:=⟨by kernel_rfl,⟨by decide,by decide,fun x hx=>(by cases hx),fun x hx=>(by cases hx)⟩⟩
theorem A3S (l:List Q0):(1≤(N4 l).length∧(N4 l).length≤3)∧∀ x∈N4 l,A0i x=true∧A0J x.scope:=by
 unfold N4
 split
 ·refine ⟨⟨Nat.le_refl _,by show 1≤3;decide⟩,fun x hx=>?_⟩
  rw [List.mem_singleton.1 hx]
  exact ⟨by kernel_rfl,A4B.2⟩
 ·rename_i h
  refine ⟨by rw [List.length_map,List.length_take];omega,fun x hx=>?_⟩
  obtain ⟨y,_,rfl⟩:=List.mem_map.1 hx
  obtain ⟨h1,h2⟩:=A1V y.scope
  have:=E7 y.count (n:=2) (by decide)
  refine ⟨?_,h2⟩
  unfold A0i
  rw [show (W0 y).scope=O3 y.scope from rfl,h1,show (W0 y).count=1+C6 y.count 2 from rfl,decide_eq_false (by omega),decide_eq_false (by omega)];rfl
theorem B0r (l:List Y8) (step:Int) (i k:Nat) (hk:k<i):(O4 l step i).1.getD k default=A9N (l.getD k default) ((O4 l step k).2+C6 (l.getD k default).least step):=by
 induction i with
 | zero=>omega
 | succ i ih =>
  have hl:=A6v l step i
  show ((O4 l step i).1++[_]).getD k default=_
  by_cases e:k=i
  ·subst e
   rw [List.getD_eq_getElem?_getD,List.getElem?_append_right (by omega),hl,Nat.sub_self];rfl
  ·rw [List.getD_eq_getElem?_getD,List.getElem?_append_left (by omega),←List.getD_eq_getElem?_getD]
   exact ih (by omega)
theorem A1W (l:List Y8) (step:Int) (h:step=5000∨step=5):V0 (N5 l step)=true∧(N5 l step).length≤3:=by
 unfold N5
 split
 ·rcases h with rfl | rfl
  ·exact ⟨by kernel_rfl,by show 1≤3;decide⟩
  ·exact ⟨by kernel_rfl,by show 1≤3;decide⟩
 ·rename_i h0
  have hs:0<step∧step≤5000:=by omega
  have hl:=A6v l step (min l.length 3)
  refine ⟨?_,by omega⟩
  unfold V0
  rw [hl,decide_eq_false (by omega),decide_eq_false (by omega)]
  show J1 _ _=true
  refine J2 fun k hk=>?_
  rw [hl] at hk
  have hg:=B0r l step (min l.length 3) k hk
  have hm:=E7 (l.getD k default).least hs.1
  have hr:=E7 (l.getD k default).rate (n:=4000) (by decide)
  have ha:=E7 (l.getD k default).amount (n:=300) (by decide)
  have hlo:=A7s l hs.1 k
  have hip:(k:Int) * step≤3 * 5000:=Int.mul_le_mul (by omega) hs.2 (by omega) (by omega)
  unfold A2Z
  rw [hg]
  have hprev:(if k=0 then -1 else ((O4 l step (min l.length 3)).1.getD (k - 1) default).least)<(O4 l step k).2+C6 (l.getD k default).least step:=by
   by_cases e:k=0
   ·rw [if_pos e];omega
   ·rw [if_neg e,B0r l step (min l.length 3) (k - 1) (by omega)]
    obtain ⟨j,rfl⟩:∃ j,k=j+1:=⟨k - 1,by omega⟩
    rw [Nat.add_sub_cancel]
    show (O4 l step j).2+C6 (l.getD j default).least step<(O4 l step j).2+C6 (l.getD j default).least step+1+C6 (l.getD (j+1) default).least step
    omega
  show (!(decide ((O4 l step k).2+C6 (l.getD k default).least step≤_)||decide ((O4 l step k).2+C6 (l.getD k default).least step>10000000000000)||decide (C6 (l.getD k default).rate 4000<0)||decide (C6 (l.getD k default).rate 4000>10000)||decide (1+C6 (l.getD k default).amount 300<0)||decide (1+C6 (l.getD k default).amount 300>10000000000000)||(C6 (l.getD k default).rate 4000==0&&1+C6 (l.getD k default).amount 300==0)))=true
  rw [decide_eq_false (by omega),decide_eq_false (by omega),decide_eq_false (by omega),decide_eq_false (by omega),decide_eq_false (by omega),decide_eq_false (by omega),show (1+C6 (l.getD k default).amount 300==0)=false from by rw [beq_eq_false_iff_ne];omega,Bool.and_false];rfl
theorem B8c (l:List Int) (n:Nat):(∀ x∈O7 l n,1≤x∧x≤5)∧(O7 l n).Nodup:=by
 induction n with
 | zero=>exact ⟨fun x hx=>absurd hx List.not_mem_nil,List.nodup_nil⟩
 | succ n ih =>
  rw [A4H];unfold A4G
  split
  ·exact ih
  ·rename_i h
   have hm:=E7 (gI l n) (n:=5) (by decide)
   have hno:1+C6 (gI l n) 5∉O7 l n:=fun hx=>h (List.any_eq_true.2 ⟨_,hx,beq_self_eq_true _⟩)
   refine ⟨fun x hx=>?_,List.nodup_append.2 ⟨ih.2,List.nodup_cons.2 ⟨List.not_mem_nil,List.nodup_nil⟩,fun a ha b hb=>?_⟩⟩
   ·rcases List.mem_append.1 hx with h' | h'
    ·exact ih.1 x h'
    ·rw [List.mem_singleton.1 h'];omega
   ·rw [List.mem_singleton.1 hb];intro e;exact hno (e▸ha)
theorem B3V {l:List Int} (h1:∀ x∈l,1≤x∧x≤5) (h2:l.Nodup):A0r l=true:=by
 refine J2 fun k hk=>?_
 have hx:=h1 _ (B5 hk)
 unfold A1F
 rw [show Q6 1 9 (l.getD k default)=true from L4.2 (by omega)]
 have:((l.take k).any fun y=>l.getD k default==y)=false:=by
  rw [List.any_eq_false]
  intro y hy
  obtain ⟨j,hj,rfl⟩:=List.getElem_of_mem hy
  rw [List.length_take] at hj
  rw [beq_iff_eq,List.getD_eq_getElem?_getD,List.getElem?_eq_getElem hk,Option.getD_some,List.getElem_take]
  intro e
  have:=(List.nodup_iff_pairwise_ne.1 h2)
  exact absurd e.symm (List.pairwise_iff_getElem.1 this j k (by omega) hk (by omega))
 rw [this];rfl
theorem R6 (l:List Int):A0r (K0 l)=true∧(K0 l).length≤6:=by
 have h:=B8c l (min l.length 6)
 have:=A9q l (min l.length 6)
 exact ⟨B3V h.1 h.2,by show (O7 l _).length≤6;omega⟩
theorem A1l (q:B2) (h1:1≤q.kind∧q.kind<8) (hh:A5R q=true) (hp:A4L q=true) (hk:A4K q=true):G2 q=true:=by
 unfold G2;rw [decide_eq_true (show q.kind≥1 from h1.1),decide_eq_true h1.2,hh,hp,hk];rfl
theorem A2s (q:B2) (h1:F1 q.id=true) (h2:0≤q.prio∧q.prio≤1000) (h3:A1G q.group=true) (h4:A1G q.code=true) (h5:Y3 q.scope=true) (h6:0≤q.least∧q.least≤10000000000000):A5R q=true:=by
 unfold A5R;rw [h1,L4.2 h2,h3,h4,h5,L4.2 h6];rfl
theorem A4R (p:B2):1≤A2u p∧A2u p≤7:=by
 have:=E7 (IntKind.i64.wrap (p.kind - 1)) (n:=7) (by decide)
 unfold A2u;omega
theorem A7P (p:B2) (id K:Int) (hK:1≤K∧K≤7):G2 (M8 p id K)=true:=by
 have h1:=B3R id
 have h2:=E7 p.prio (n:=5) (by decide)
 have h3:=(A8g p).1
 have h4:=(A9f p).1
 have h5:=(A1V p.scope).1
 have h6:=C0l p
 have r:=E7 p.rate (n:=10000) (by decide)
 have a9:=E7 p.amount (n:=900) (by decide)
 have a3:=E7 p.amount (n:=3000) (by decide)
 have b3:=E7 p.buy (n:=3) (by decide)
 have g2:=E7 p.get (n:=2) (by decide)
 have hpt:=A3S p.parts
 have ht5:=(A1W p.tiers 5000 (.inl rfl)).1
 have ht6:=(A1W p.tiers 5 (.inr rfl)).1
 unfold M8
 generalize idN id=I at h1 ⊢
 generalize C6 p.prio 5=pr at h2 ⊢
 generalize A1j p=G at h3 ⊢
 generalize A2t p=C at h4 ⊢
 generalize O3 p.scope=S at h5 ⊢
 generalize A2f p=L at h6 ⊢
 generalize C6 p.rate 10000=R at r ⊢
 generalize C6 p.amount 900=A at a9 ⊢
 generalize C6 p.amount 3000=A3 at a3 ⊢
 generalize C6 p.buy 3=B at b3 ⊢
 generalize C6 p.get 2=Gt at g2 ⊢
 generalize N4 p.parts=PT at hpt ⊢
 generalize N5 p.tiers 5000=T5 at ht5 ⊢
 generalize N5 p.tiers 5=T6 at ht6 ⊢
 generalize p.closes=cl
 rcases (by omega:K=1∨K=2∨K=3∨K=4∨K=5∨K=6∨K=7) with rfl | rfl | rfl | rfl | rfl | rfl | rfl
 ·exact A1l ⟨I,1,pr,G,C,cl,S,L,1+R,0,0,0,[],[]⟩ ⟨(by decide:(1:Int)≤1),(by decide:(1:Int)<8)⟩ (A2s _ h1 ⟨h2.1,by show pr≤1000;omega⟩ h3 h4 h5 ⟨h6.1,by show L≤_;omega⟩) rfl (show Q6 1 10000 (1+R)=true from L4.2 (by omega))
 ·exact A1l ⟨I,2,pr,G,C,cl,S,L,0,1+A,0,0,[],[]⟩ ⟨(by decide:(1:Int)≤2),(by decide:(2:Int)<8)⟩ (A2s _ h1 ⟨h2.1,by show pr≤1000;omega⟩ h3 h4 h5 ⟨h6.1,by show L≤_;omega⟩) rfl (show Q6 1 1000000000 (1+A)=true from L4.2 (by omega))
 ·refine A1l ⟨I,3,pr,G,C,cl,S,L,1+R,0,1+B,1+Gt,[],[]⟩ ⟨(by decide:(1:Int)≤3),(by decide:(3:Int)<8)⟩ (A2s _ h1 ⟨h2.1,by show pr≤1000;omega⟩ h3 h4 h5 ⟨h6.1,by show L≤_;omega⟩) rfl ?_
  show (Q6 1 10000 (1+R)&&(Q6 1 100 (1+B)&&Q6 1 100 (1+Gt)))=true
  rw [L4.2 (show 1≤1+R∧1+R≤10000 by omega),L4.2 (show 1≤1+B∧1+B≤100 by omega),L4.2 (show 1≤1+Gt∧1+Gt≤100 by omega)];rfl
 ·refine A1l ⟨I,4,pr,G,C,cl,⟨[],[]⟩,L,0,A3,0,0,PT,[]⟩ ⟨(by decide:(1:Int)≤4),(by decide:(4:Int)<8)⟩ (A2s _ h1 ⟨h2.1,by show pr≤1000;omega⟩ h3 h4 A4B.1 ⟨h6.1,by show L≤_;omega⟩) rfl ?_
  show (!(decide ((PT.length:Int)<1)||decide ((PT.length:Int)>3)||decide (A3<0)||decide (A3>10000000000000))&&!(PT.any fun x=>!A0i x))=true
  rw [decide_eq_false (by omega),decide_eq_false (by omega),decide_eq_false (by omega),decide_eq_false (by omega),show (PT.any fun x=>!A0i x)=false from by
   rw [List.any_eq_false];intro x hx;rw [(hpt.2 x hx).1];simp];rfl
 ·exact A1l ⟨I,5,pr,G,C,cl,S,L,0,0,0,0,[],T5⟩ ⟨(by decide:(1:Int)≤5),(by decide:(5:Int)<8)⟩ (A2s _ h1 ⟨h2.1,by show pr≤1000;omega⟩ h3 h4 h5 ⟨h6.1,by show L≤_;omega⟩) rfl ht5
 ·exact A1l ⟨I,6,pr,G,C,cl,S,L,0,0,0,0,[],T6⟩ ⟨(by decide:(1:Int)≤6),(by decide:(6:Int)<8)⟩ (A2s _ h1 ⟨h2.1,by show pr≤1000;omega⟩ h3 h4 h5 ⟨h6.1,by show L≤_;omega⟩) rfl ht6
 ·exact A1l ⟨I,7,pr,G,C,false,⟨[],[]⟩,L,1+R,0,0,0,[],[]⟩ ⟨(by decide:(1:Int)≤7),(by decide:(7:Int)<8)⟩ (A2s _ h1 ⟨h2.1,by show pr≤1000;omega⟩ h3 h4 A4B.1 ⟨h6.1,by show L≤_;omega⟩) rfl (show Q6 1 10000 (1+R)=true from L4.2 (by omega))
theorem A0J.fit {s:O5} (h:A0J s):A6C s:=⟨by have:=h.n1;show _≤9223372036854775807;omega,by have:=h.n2;show _≤9223372036854775807;omega⟩
theorem A9L (p:B2) (id K:Int):O0 (M8 p id K):=by
 have hs:=(A1V p.scope).2
 have hp:=A3S p.parts
 refine ⟨?_,?_,?_⟩
 ·show A6C (if K=4∨K=7 then ⟨[],[]⟩ else O3 p.scope)
  split
  ·exact A4B.2.fit
  ·exact hs.fit
 ·show (if K=4 then N4 p.parts else []).length≤9223372036854775807
  split
  ·omega
  ·exact Nat.zero_le _
 ·show ∀ x∈(if K=4 then N4 p.parts else []),_
  split
  ·exact fun x hx=>⟨(hp.2 x hx).2.fit.skus,(hp.2 x hx).2.fit.cats⟩
  ·exact fun x hx=>absurd hx List.not_mem_nil
theorem A0T (l:List B2):(K2 l).length=min l.length 6:=by unfold K2;rw [List.length_map,List.length_range]
theorem A4S {l:List B2} {k:Nat} (hk:k<(K2 l).length):(K2 l).getD k default=U4 l k:=by
 rw [A0T] at hk
 unfold K2
 rw [List.getD_eq_getElem?_getD,List.getElem?_map,List.getElem?_range hk];rfl
theorem A4T {l:List B2} {p:B2} (h:p∈K2 l):∃ (q:B2) (id K:Int),(1≤K∧K≤7)∧p=M8 q id K:=by
 obtain ⟨k,hk,rfl⟩:=List.mem_map.1 h
 exact ⟨_,_,_,A4R _,rfl⟩
theorem B5I:((List.range 6).all fun j=>(List.range j).all fun i=>!((idN (B7Z i)).toList==(idN (B7Z j)).toList))=true:=by kernel_rfl
theorem A7Q (l:List B2):promosC (K2 l)=true:=by
 have hl:=A0T l
 unfold promosC
 rw [decide_eq_true (by omega),Bool.true_and]
 refine J2 fun k hk=>?_
 unfold T1
 rw [A4S hk,show G2 (U4 l k)=true from A7P _ _ _ (A4R _),Bool.true_and,Bool.not_eq_true',List.any_eq_false]
 intro x hx
 obtain ⟨j,hj,rfl⟩:=F2 hx
 rw [List.length_take] at hj
 rw [show ((K2 l).take k).getD j default=U4 l j by rw [List.getD_eq_getElem?_getD,List.getElem?_take_of_lt (by omega),←List.getD_eq_getElem?_getD,A4S (by omega)]]
 have:=List.all_eq_true.1 (List.all_eq_true.1 B5I k (List.mem_range.2 (by omega))) j (List.mem_range.2 (by omega))
 rw [Bool.not_eq_true'] at this
 show ¬((idN (B7Z j)).toList==(idN (B7Z k)).toList)=true
 rw [this];simp
theorem B7J (n:Nat) (h:n≤3):Y2 ((List.range n).map fun c:Nat=>A4n c)=true:=by
 rcases le3 h with rfl | rfl | rfl | rfl<;>kernel_rfl
theorem A7f (l:List G8):(Q1 l).length≤3∧(∀ x∈Q1 l,A4g x=true∧x.cat.size≤12)∧Y2 ((Q1 l).map G8.cat)=true:=by
 unfold Q1
 refine ⟨by rw [List.length_map,List.length_range];omega,fun x hx=>?_,?_⟩
 ·obtain ⟨c,_,rfl⟩:=List.mem_map.1 hx
  have:=E7 (l.getD c default).rate (n:=3000) (by decide)
  refine ⟨?_,X9 (A5r _)⟩
  unfold A4g
  rw [show (A7e l c).cat=A4n c from rfl,A5r,show Q6 0 10000 (A7e l c).rate=true from L4.2 ⟨this.1,by show C6 _ 3000≤_;omega⟩];rfl
 ·rw [List.map_map]
  exact B7J _ (by omega)
theorem B0B:((List.range 3).all fun k:Nat=>F1 (W4 k))=true:=by kernel_rfl
theorem B4p (l:List U6) (k:Nat) (hk:k<3):Z5 (F0 l k)=true:=by
 have hn:=List.all_eq_true.1 B0B k (List.mem_range.2 hk)
 have hz:=X9 hn
 unfold F0
 split
 ·obtain ⟨h1,h2,h3⟩:=A7f (l.getD k default).rates
  have m1:=E7 (l.getD k default).rest (n:=3000) (by decide)
  have m2:=E7 (l.getD k default).ship (n:=3000) (by decide)
  generalize Q1 (l.getD k default).rates=R at h1 h2 h3 ⊢
  unfold Z5
  show (!(!F1 (W4 k)||!Q6 0 10000 (C6 _ 3000)||!Q6 0 10000 (C6 _ 3000)||decide ((R.length:Int)>40))&&(J1 R (fun _ x=>A4g x)&&Y2 (R.map G8.cat)))=true
  rw [hn,L4.2 (show 0≤C6 (l.getD k default).rest 3000∧_≤10000 by omega),L4.2 (show 0≤C6 (l.getD k default).ship 3000∧_≤10000 by omega),decide_eq_false (by omega),h3,show J1 R (fun _ x=>A4g x)=true from J2 fun j hj=>(h2 _ (B5 hj)).1];rfl
 ·rcases lt3 hk with rfl | rfl | rfl
  ·exact (by kernel_rfl:Z5 ⟨W4 (0:Nat),[],1000 * ((0:Nat):Int),500 * ((0:Nat):Int)⟩=true)
  ·exact (by kernel_rfl:Z5 ⟨W4 (1:Nat),[],1000 * ((1:Nat):Int),500 * ((1:Nat):Int)⟩=true)
  ·exact (by kernel_rfl:Z5 ⟨W4 (2:Nat),[],1000 * ((2:Nat):Int),500 * ((2:Nat):Int)⟩=true)
theorem B9e (l:List U6):(((List.range 3).map (F0 l)).map U6.name)=[W4 0,W4 1,W4 2]:=by
 have e:∀ k,(F0 l k).name=W4 k:=fun k=>by unfold F0;split<;>rfl
 show [(F0 l 0).name,(F0 l 1).name,(F0 l 2).name]=_
 rw [e,e,e];rfl
theorem B5V (t:Tax):A6u (K4 t)=true:=by
 have hr:=E7 t.round (n:=3) (by decide)
 have hz:∀ z∈(K4 t).zones,Z5 z=true:=fun z hz=>by
  obtain ⟨k,hk,rfl⟩:=List.mem_map.1 hz
  exact B4p _ k (List.mem_range.1 hk)
 have hn:(K4 t).zones.length=3:=by show ((List.range 3).map _).length=3;rw [List.length_map,List.length_range]
 unfold A6u
 rw [show (K4 t).round=C6 t.round 3 from rfl,hn,decide_eq_false (show ¬ C6 t.round 3<0 by omega),decide_eq_false (show ¬ C6 t.round 3>2 by omega),show (K4 t).zones.map U6.name=[W4 0,W4 1,W4 2] from B9e _,
  show Y2 [W4 0,W4 1,W4 2]=true by kernel_rfl,show J1 (K4 t).zones (fun _ z=>Z5 z)=true from J2 fun j hj=>hz _ (B5 hj)];rfl
theorem B4j (l:List Ab.Item) (k:Nat):A3l (O1 l k)=true∧(O1 l k).sku.size≤12∧(O1 l k).cat.size≤12∨8≤k:=by
 by_cases h8:8≤k
 ·exact .inr h8
 refine .inl ?_
 have e:∀ (c:E0) (pr:Int) (f:Bool),F1 c=true→0≤pr∧pr≤1000000000→A3l ⟨A0X k,c,pr,f⟩=true∧(A0X k).size≤12∧c.size≤12:=fun c pr f hc hp=>by
  refine ⟨?_,X9 (B1A _),X9 hc⟩
  unfold A3l
  rw [show F1 (Ab.Item.mk (A0X k) c pr f).sku=true from B1A _,show F1 (Ab.Item.mk (A0X k) c pr f).cat=true from hc,decide_eq_false (show ¬(Ab.Item.mk (A0X k) c pr f).price<0 from by show ¬ pr<0;omega),decide_eq_false (show ¬(Ab.Item.mk (A0X k) c pr f).price>1000000000 from by show ¬ pr>_;omega)];rfl
 have hm:=E7 (l.getD k default).price (n:=4000) (by decide)
 unfold O1
 split
 ·exact e _ _ _ (A5r _) (by omega)
 ·exact e _ _ _ (A5r _) (by omega)
theorem A5S {l:List Ab.Item} {x:Ab.Item} (h:x∈N3 l):A3l x=true∧x.sku.size≤12∧x.cat.size≤12:=by
 obtain ⟨k,hk,rfl⟩:=List.mem_map.1 h
 have:=List.mem_range.1 hk
 rcases B4j l k with h | h
 ·exact h
 ·omega
theorem A8y (l:List Ab.Item):A0q (N3 l)=true:=by
 unfold A0q
 rw [A2V,B1B,show Y2 [V7 97,V7 98,V7 99,V7 100,V7 101,V7 102,V7 103,V7 104]=true by kernel_rfl,show J1 (N3 l) (fun _ x=>A3l x)=true from J2 fun j hj=>(A5S (B5 hj)).1];rfl
theorem A8z (r:F9):J0 (U0 r)=true:=by
 have h1:=E7 r.ship.fee (n:=900) (by decide)
 have h2:=E7 r.ship.free (n:=3) (by decide)
 have h3:=E7 r.policy.window (n:=60) (by decide)
 have h4:=E7 r.policy.grace (n:=40) (by decide)
 have h5:=E7 r.policy.mode (n:=3) (by decide)
 have h6:=E7 r.policy.restock (n:=3) (by decide)
 have h7:=E7 r.policy.restock (n:=2500) (by decide)
 have h8:C6 r.policy.restock 3 * C6 r.policy.restock 2500≤2 * 2499:=Int.mul_le_mul (by omega) (by omega) (by omega) (by omega)
 have h9:0≤C6 r.policy.restock 3 * C6 r.policy.restock 2500:=Int.mul_nonneg h6.1 h7.1
 show (A0q (N3 r.items)&&promosC (K2 r.promos)&&A6u (K4 r.tax)&&A8m (A9M r.ship)&&A5x (A6k r.policy))=true
 rw [A8y,A7Q,B5V r.tax]
 have e1:A8m (A9M r.ship)=true:=by
  show (Q6 0 1000000000 (C6 r.ship.fee 900)&&Q6 0 10000000000000 (C6 r.ship.free 3 * 4000))=true
  rw [L4.2 (by omega),L4.2 (by omega)];rfl
 have e2:A5x (A6k r.policy)=true:=by
  show (Q6 0 100000 (20+C6 r.policy.window 60)&&Q6 0 100000 (C6 r.policy.grace 40)&&decide (1+C6 r.policy.mode 3≥1)&&decide (1+C6 r.policy.mode 3≤3)&&Q6 0 10000 (C6 r.policy.restock 3 * C6 r.policy.restock 2500)&&A0r (K0 r.policy.order)&&A0r (K0 r.policy.credit))=true
  rw [L4.2 (by omega),L4.2 (by omega),decide_eq_true (by omega),decide_eq_true (by omega),L4.2 (by omega),(R6 _).1,(R6 _).1];rfl
 rw [e1,e2];rfl
theorem B0L (r:F9):V6 (U0 r):=by
 have h1:=A0T r.promos
 have h2:=(R6 r.policy.order).2
 have h3:=(R6 r.policy.credit).2
 refine ⟨by show (K2 r.promos).length≤9223372036854775807;omega,fun p hp=>?_,by show (K0 r.policy.order).length<_;omega,by show (K0 r.policy.credit).length<_;omega⟩
 obtain ⟨q,id,K,_,rfl⟩:=A4T hp
 exact A9L q id K
abbrev A6d (l:List G8):Nat→AV:=fun i=>A0f (l.getD i default)
def A1E (zs:Nat→List G8) (sv:Nat→AV):Nat→St→St→Prop
 | 0=>F3
 | k+1=>fun s t=>ROut (A1E zs sv k) 212 2 (A6d (zs k)) (zs k).length s (sv k) t
theorem A1t (zs:Nat→List G8) (sv:Nat→AV):∀ k,H2 (A1E zs sv k)
 | 0=>C8
 | k+1=>N2 (A1t zs sv k) _ _ _ _ _
theorem A8b {zs zs':Nat→List G8} {sv sv':Nat→AV}:∀ (k:Nat) {s t:St},(∀ j,j<k→zs j=zs' j∧sv j=sv' j)→A1E zs sv k s t→A1E zs' sv' k s t
 | 0,s,t,_,h=>h
 | k+1,s,t,he,h=>by
  obtain ⟨s0,h1,h2⟩:=h
  obtain ⟨e1,e2⟩:=he k (Nat.lt_succ_self k)
  rw [e1,e2] at h1
  exact ⟨s0,h1,A8b k (fun j hj=>he j (Nat.lt_succ_of_lt hj)) h2⟩
theorem A6R {bz n ty:Nat} {zs:Nat→List G8} {sv:Nat→AV} {nm:Nat→E0} {r1 r2:Nat→Int}:∀ (k:Nat) (s t:St) (g:Nat→AV),k≤n→A1E zs sv k s t→s bz=some ⟨ty,4,n,g⟩→(∀ j,j<k→g j=.agg [eS (nm j),sv j,eI (r1 j),eI (r2 j)]) →
  ∃ t' g',(∀ vs,B4 vs t vs t')∧F3 (upd s bz ⟨ty,4,n,g'⟩) t'∧(∀ j,j<k→g' j=.agg [eS (nm j),B1 2 A0f (zs j),eI (r1 j),eI (r2 j)])∧∀ j,k≤j→g' j=g j
 | 0,s,t,g,hk,h,hs,hg=>by
  refine ⟨t,g,fun vs=>B4.refl _ _,fun b x hb=>?_,fun j hj=>absurd hj (by omega),fun j _=>rfl⟩
  by_cases e:b=bz
  ·subst e;rw [A0] at hb;cases hb;exact h _ _ hs
  ·rw [A9 e] at hb;exact h _ _ hb
 | k+1,s,t,g,hk,h,hs,hg=>by
  have hB:=A1t zs sv k
  have ht:t bz=some ⟨ty,4,n,g⟩:=(A1t zs sv (k+1)).sup h _ _ hs
  obtain ⟨t1,hsh,hc⟩:=ROut.shift hB h
  have ht1:t1 bz=some ⟨ty,4,n,g⟩:=hB.sup hc _ _ hs
  have hcell:=fun vs=>B4.cell (vs:=vs) (pre:=[eS (nm k)]) (post:=[eI (r1 k),eI (r2 k)]) hsh ht ht1 (show k<n by omega) (hg k (by omega)) rfl
  have hc':=hB.write (y':=⟨ty,4,n,G6 g k (.agg ([eS (nm k)]++AV.arr 2 (zs k).length (A6d (zs k))::[eI (r1 k),eI (r2 k)]))⟩) hc hs
  obtain ⟨t',g',k1,k2,k3,k4⟩:=A6R (nm:=nm) (r1:=r1) (r2:=r2) k _ _ _ (by omega) hc' (A0 ..) (fun j hj=>by rw [F4 (by omega)];exact hg j (by omega))
  rw [B8] at k2
  refine ⟨t',g',fun vs=>(hcell vs).trans (k1 vs),k2,fun j hj=>?_,fun j hj=>?_⟩
  ·by_cases e:j=k
   ·subst e;rw [k4 j (Nat.le_refl _),A5];rfl
   ·exact k3 j (by omega)
  ·rw [k4 j (by omega),F4 (by omega)]
theorem ROut.putB {R:St→St→Prop} (hR:H2 R) {ty e n b:Nat} {fo:Nat→AV} {s t:St} {sv:AV} {y:Q3} (h:ROut R ty e fo n (upd s b y) sv t) (y':Q3):ROut R ty e fo n (upd s b y') sv (upd t b y'):=by
 have:=ROut.write (y':=y') hR h (A0 ..)
 rwa [B8] at this
theorem C1H (k:Nat) (h:k<3):(⟨#[122]⟩:E0)++B0S ([]++[IntKind.u8.wrap (48+IntKind.u8.wrap (k:Int))])=W4 k:=by rw [B1G];rfl
theorem B4o {l:List U6} {k:Nat} (h:k<l.length):F0 l k=⟨W4 k,Q1 (l.getD k default).rates,C6 (l.getD k default).rest 3000,C6 (l.getD k default).ship 3000⟩:=if_pos h
theorem B2H {l:List U6} {k:Nat} (h:¬ k<l.length):F0 l k=⟨W4 k,[],1000 * k,500 * k⟩:=if_neg h
theorem C2R {l:List G8} {c:Nat} (hc:c<min 3 l.length):(Q1 l).getD c default=A7e l c:=by
 unfold Q1
 rw [List.getD_eq_getElem?_getD,List.getElem?_map,List.getElem?_range hc];rfl
abbrev B0A (z:U6) (rv:AV):AV:=.agg [eS z.name,rv,eI z.rest,eI z.ship]
def ZO (t:Tax) (k:Nat) (base:St) (zv:AV) (s:St):Prop :=
 ∃ (sv g:Nat→AV),ROut (A1E (fun j=>(F0 t.zones j).rates) sv k) 177 4 g k base zv s∧∀ j,j<k→g j=B0A (F0 t.zones j) (sv j)
theorem ZO.end {t:Tax} {base s:St} {zv:AV} (h:ZO t 3 base zv s):∃ t',B4 [zv] s [B1 4 S8 (K4 t).zones] t'∧F3 base t':=by
 obtain ⟨sv,g,⟨s1,hcol,hch⟩,hg⟩:=h
 rcases hcol with ⟨h0,_,_⟩ | ⟨h0,bz,g0,hbz,rfl,rfl,hgg⟩
 ·cases h0
 obtain ⟨t',g',hsh,hsup,hg',_⟩:=A6R (nm:=fun j=>(F0 t.zones j).name) (r1:=fun j=>(F0 t.zones j).rest) (r2:=fun j=>(F0 t.zones j).ship) 3 _ s g0 (Nat.le_refl _) hch (A0 ..) (fun j hj=>by rw [hgg j hj,hg j hj])
 rw [B8] at hsup
 refine ⟨del t' bz,(hsh _).trans (L0 (hsup bz _ (A0 ..)) rfl (Nat.le_refl _) fun i hi=>?_),?_⟩
 ·show g' i=S8 ((K4 t).zones.getD i default)
  rw [hg' i hi]
  have:(K4 t).zones.getD i default=F0 t.zones i:=by
   show ((List.range 3).map (F0 t.zones)).getD i default=_
   rw [List.getD_eq_getElem?_getD,List.getElem?_map,List.getElem?_range hi];rfl
  rw [this];rfl
 ·exact F3.del (((F3.refl base).upd hbz).trans hsup) hbz
theorem ZO.next {t:Tax} {k:Nat} {base s1 s:St} {zv rv:AV} {sv g:Nat→AV} (hcol:H9 177 4 g base k zv s1) (hR:ROut (A1E (fun j=>(F0 t.zones j).rates) sv k) 212 2 (A6d (F0 t.zones k).rates) (F0 t.zones k).rates.length s1 rv s) (hg:∀ j,j<k→g j=B0A (F0 t.zones j) (sv j)) :
  ∃ sv' g',ROut (A1E (fun j=>(F0 t.zones j).rates) sv' (k+1)) 177 4 g' k base zv s∧sv' k=rv∧(∀ j,j<k+1→g' j=B0A (F0 t.zones j) (sv' j)):=by
 have hsv:∀ j,j<k→sv j=(fun j=>if j=k then rv else sv j) j:=fun j hj=>by simp only;rw [if_neg (by omega)]
 refine ⟨fun j=>if j=k then rv else sv j,fun j=>B0A (F0 t.zones j) (if j=k then rv else sv j),⟨s1,H9.congr hcol fun j hj=>by rw [hg j hj];show B0A _ _=B0A _ (if j=k then rv else sv j);rw [if_neg (by omega)],?_⟩,by simp,fun j _=>rfl⟩
 obtain ⟨s2,h1,h2⟩:=hR
 refine ⟨s2,?_,A8b k (fun j hj=>⟨rfl,hsv j hj⟩) h2⟩
 simp only [if_true];exact h1
theorem B4R {R:St→St→Prop} {ty e n b:Nat} {fo:Nat→AV} {base s:St} {zv:AV} {y:Q3} (h:ROut R ty e fo n (upd base b y) zv (upd s b y)) (ty' e':Nat) (fo':Nat→AV):∃ s1,H9 ty e fo (upd base b y) n zv s1∧ROut R ty' e' fo' 0 s1 .emp (upd s b y):=by
 obtain ⟨s1,h1,h2⟩:=h
 exact ⟨s1,h1,ROut.start h2 _ _ _⟩
theorem C3d {R:St→St→Prop} (hR:H2 R) {ty e n b ty' e' m:Nat} {fo fo':Nat→AV} {base s1 t:St} {zv rv:AV} {y:Q3} (h1:H9 ty e fo (upd base b y) n zv s1) (h2:ROut R ty' e' fo' m s1 rv t) (y':Q3) :
  ∃ s1',H9 ty e fo (upd base b y') n zv s1'∧ROut R ty' e' fo' m s1' rv (upd t b y'):=by
 have h3:=H9.write (y':=y') h1 (A0 ..)
 rw [B8] at h3
 exact ⟨_,h3,ROut.write hR h2 (h1.sup b _ (A0 ..))⟩
set_option maxHeartbeats 8000000 in
theorem B8s (x:Tax) (st:St):S P 68 [B0I x] st fun v st'=>v=B0I (K4 x)∧st'=st:=by
 have hE:B0I (K4 x)=.agg [eB x.incl,eB x.byOrder,eI (C6 x.round 3),B1 4 S8 (K4 x).zones]:=rfl
 refine S.post (post:=fun v s=>∃ zv base,v=.agg [eB x.incl,eB x.byOrder,eI (C6 x.round 3),zv]∧B4 [zv] s [B1 4 S8 (K4 x).zones] base∧F3 st base) ?_ (fun v s ⟨zv,base,h1,h2,h3⟩=>⟨_,st,⟨hE.symm,rfl⟩,by
  rw [h1]
  exact (B4.agg (B4.cons (B4.keep [eB x.incl] _) (B4.cons (B4.keep [eB x.byOrder] _) (B4.cons (B4.keep [eI (C6 x.round 3)] _) h2)))).trans (h3.shift _)⟩)
 clear hE
 have hRd:=fun s=>A0P x.round 3 (by decide) (by decide) s
 obtain ⟨RD',hRD'⟩:∃ RD',RD'=C6 x.round 3:=⟨_,rfl⟩
 rw [←hRD'] at hRd ⊢
 have hend:=fun base s zv=>ZO.end (t:=x) (base:=base) (s:=s) (zv:=zv)
 have hnext:=fun k base s1 s zv rv sv g=>ZO.next (t:=x) (k:=k) (base:=base) (s1:=s1) (s:=s) (zv:=zv) (rv:=rv) (sv:=sv) (g:=g)
 generalize B1 4 S8 (K4 x).zones=ZS at hend ⊢
 refine A7 [1] C0 mixed Tryz.func68 (by rfl) rfl rfl rfl ?_;conv=>whnf
 intro b2 hb2;conv=>whnf
 refine ⟨[8,9],[1,3,5,6],List.range 10,by kernel_rfl,?_⟩;conv=>whnf
 refine ⟨_,fun s _=>⟨rfl,rfl⟩,?_⟩;conv=>whnf
 refine ⟨_,fun s _=>⟨rfl,rfl⟩,?_⟩;conv=>whnf
 refine ⟨_,fun s _=>⟨rfl,rfl⟩,?_⟩;conv=>whnf
 refine ⟨_,fun s _=>D2 (hRd s),?_⟩;conv=>whnf
 intro b3 hb3
 have h23:b2≠b3:=fun e=>by subst e;rw [A0] at hb3;cases hb3
 conv=>whnf
 refine J7 (A0 ..) rfl (by omega) rfl (by rfl) ?_
 rw [B8];conv=>whnf
 refine lp 3 [1,2,3,4] (fun k vs s=>∃ zv f,vs=[.fptr (B0I x) 0,.optr 4 b2 0 0,.optr 4 b3 0 0,eI k]∧f 0=.agg [eB x.incl,eB x.byOrder,eI RD',zv]∧ZO x k (upd (upd st b2 ⟨26,4,1,fun _=>K6 r26.zero⟩) b3 ⟨26,4,1,f⟩) zv s) ?_ ?_
 ·conv=>whnf
  exact ⟨.emp,_,rfl,by first | rfl | (rw [A5];rfl),fun _=>.junk,fun _=>.junk,ROut.start (show A1E _ _ 0 _ _ from F3.refl _) _ _ _,fun j hj=>absurd hj (by omega)⟩
 rintro k vs s hk ⟨zv,f,rfl,hf,sv,g,hR,hg⟩
 have hB:=A1t (fun j=>(F0 x.zones j).rates) sv k
 have hsup:=ROut.sup hB hR
 have at3:s b3=some ⟨26,4,1,f⟩:=hsup b3 _ (A0 ..)
 have at2:s b2=some ⟨26,4,1,fun _=>K6 r26.zero⟩:=hsup b2 _ (by rw [A9 h23];exact A0 ..)
 conv=>whnf
 refine C4 (fun h1=>?_) (fun h1=>?_)<;>rw [h1]<;>simp only [decide_eq_true_eq,decide_eq_false_iff_not] at h1
 case refine_2 =>
  obtain rfl:k=3:=by omega
  have hz:=ROut.head hR
  obtain ⟨y2,hy2⟩:∃ y2:Q3,y2=⟨26,4,1,G6 (fun _=>K6 r26.zero) 0 (.agg [eB x.incl,eB x.byOrder,eI RD',zv])⟩:=⟨_,rfl⟩
  obtain ⟨base,k1,k2⟩:=hend _ _ _ ⟨sv,g,ROut.write hB hR (b:=b2) (y':=y2) (by rw [A9 h23];exact A0 ..),hg⟩
  subst hy2
  rcases hz with rfl | ⟨bz,rfl⟩
  all_goals
   conv=>whnf
   refine E9 at3 rfl (by omega) hf ?_;conv=>whnf
   refine J7 at2 rfl (by omega) rfl (by rfl) ?_;conv=>whnf
   refine E9 (A0 ..) rfl (by omega) (A5 ..) ?_;conv=>whnf
   exact ⟨_,base,rfl,k1,((((F3.refl st).upd hb2).upd hb3).over hb2).trans k2⟩
 have hk3:k<3:=by omega
 have hzn:=C1H k hk3
 have w1:IntKind.i64.wrap (1000 * (k:Int))=1000 * k:=A8 (by omega) (by omega)
 have w2:IntKind.i64.wrap (500 * (k:Int))=500 * k:=A8 (by omega) (by omega)
 have hname:∀ j,(F0 x.zones j).name=W4 j:=fun j=>by unfold F0;split<;>rfl
 conv=>whnf
 intro b5 hb5
 have h35:b3≠b5:=fun e=>by subst e;rw [at3] at hb5;cases hb5
 have h25:b2≠b5:=fun e=>by subst e;rw [at2] at hb5;cases hb5
 have hbase5:(upd (upd st b2 ⟨26,4,1,fun _=>K6 r26.zero⟩) b3 ⟨26,4,1,f⟩) b5=none:=hsup.none hb5
 conv=>whnf
 rw [hzn,w1,w2]
 refine J7 (A0 ..) rfl (by omega) rfl (by rfl) ?_
 rw [B8]
 /- the tail: the zone as it then stands is appended -/
 have tail:∀ (s2 s1:St) (rv:AV) (f5:Nat→AV),H9 177 4 g (upd (upd (upd st b2 ⟨26,4,1,fun _=>K6 r26.zero⟩) b3 ⟨26,4,1,f⟩) b5 ⟨177,4,1,f5⟩) k zv s1 →
   ROut (A1E (fun j=>(F0 x.zones j).rates) sv k) 212 2 (A6d (F0 x.zones k).rates) (F0 x.zones k).rates.length s1 rv s2 →
   ∀ (X:AV) (gg:Nat→AV),Y5 4 s2 X=some (1,gg)→gg 0=B0A (F0 x.zones k) rv →
   ∀ (K:KK),(∀ zv' t2,t2 b3=some ⟨26,4,1,f⟩→(zv'=.emp∨∃ b,zv'=.own 4 b 0 (k+1))→(∀ f',ZO x (k+1) (upd (upd st b2 ⟨26,4,1,fun _=>K6 r26.zero⟩) b3 ⟨26,4,1,f'⟩) zv' (upd t2 b3 ⟨26,4,1,f'⟩))→K zv' t2) →
   A5h T 24 zv X s2 K:=by
  intro s2 s1 rv f5 hcol hrt X gg hs hgg K hK
  obtain ⟨sv',g',q1,q2,q3⟩:=hnext _ _ _ _ _ _ _ _ hcol hrt hg
  have hB':=A1t (fun j=>(F0 x.zones j).rates) sv' (k+1)
  refine ROut.app (q:=C0G) (f:=g') hB' rfl rfl rfl rfl hs (by rw [q3 k (Nat.lt_succ_self k),q2,hgg]) (by show (k+1) * 56≤140737488355328;omega) q1 (fun zv' t2 hR2=>?_)
  have hsup2:=ROut.sup hB' hR2
  have hd:∀ f',ROut (A1E (fun j=>(F0 x.zones j).rates) sv' (k+1)) 177 4 g' (k+1) (upd (upd st b2 ⟨26,4,1,fun _=>K6 r26.zero⟩) b3 ⟨26,4,1,f'⟩) zv' (upd t2 b3 ⟨26,4,1,f'⟩):=fun f'=>by
   have h1:=ROut.write hB' hR2 (b:=b3) (y':=⟨26,4,1,f'⟩) (by rw [A9 h35];exact A0 ..)
   rw [L3 h35.symm,B8] at h1
   refine (N2 hB' _ _ _ _ _).drop h1 ?_
   rw [A9 h35.symm] at hbase5 ⊢;exact hbase5
  exact hK zv' t2 (hsup2 b3 _ (by rw [A9 h35];exact A0 ..)) (ROut.head hR2) fun f'=>⟨sv',g',hd f',q3⟩
 have hbeg:=fun y=>(N2 hB 177 4 g k zv).begin (y:=y) hR hb5
 conv=>whnf
 refine C4 (fun h2=>?_) (fun h2=>?_)<;>rw [h2]<;>simp only [decide_eq_true_eq,decide_eq_false_iff_not] at h2
 case refine_2 =>
  have hz:=B2H (l:=x.zones) (k:=k) (by omega)
  rw [hz] at tail
  rcases ROut.head hR with rfl | ⟨bz,rfl⟩
  all_goals
   conv=>whnf
   refine E9 (by rw [A9 h35];exact at3) rfl (by omega) hf ?_;conv=>whnf
   refine E9 (A0 ..) rfl (by omega) (A5 ..) ?_;conv=>whnf
   obtain ⟨s1,hcol,hrt⟩:=B4R (hbeg ⟨177,4,1,G6 (fun _=>K6 C0G.zero) 0 (.agg [eS (W4 k),.emp,eI (1000 * k),eI (500 * k)])⟩) 212 2 (A6d [])
   refine tail _ s1 .emp _ hcol hrt _ _ rfl rfl _ (fun zv' t2 q1 q2 q3=>?_)
   rcases q2 with rfl | ⟨bq,rfl⟩
   all_goals
    conv=>whnf
    refine J7 q1 rfl (by omega) hf (by rfl) ?_;conv=>whnf
    refine ⟨rfl,?_⟩;conv=>whnf
    exact nx hk3 ⟨_,_,by rw [C2 (by omega)],(by rw [A5];rfl),q3 _⟩
 have hz:=B4o (l:=x.zones) (k:=k) (by omega)
 have hrl:=fun c=>C2R (l:=(x.zones.getD (k:Int).toNat default).rates) (c:=c)
 have hrn:(Q1 (x.zones.getD (k:Int).toNat default).rates).length=min 3 (x.zones.getD (k:Int).toNat default).rates.length:=by unfold Q1;rw [List.length_map,List.length_range]
 rw [hz] at tail
 have hM1:=fun s=>M0 (x.zones.getD (k:Int).toNat default).rest 3000 (by decide) (by decide) s
 have hM2:=fun s=>M0 (x.zones.getD (k:Int).toNat default).ship 3000 (by decide) (by decide) s
 have tail':_:=tail
 rw [show x.zones.getD k default=x.zones.getD (k:Int).toNat default from rfl] at tail'
 clear tail
 generalize Q1 (x.zones.getD (k:Int).toNat default).rates=RL at tail' hrl hrn
 generalize C6 (x.zones.getD (k:Int).toNat default).rest 3000=M1 at tail' hM1
 generalize C6 (x.zones.getD (k:Int).toNat default).ship 3000=M2 at tail' hM2
 conv=>whnf
 refine ⟨[15,17],[],List.range 18,by kernel_rfl,?_⟩;conv=>whnf
 refine ⟨rfl,⟨by omega,by omega⟩,?_⟩;conv=>whnf
 refine ⟨_,D2 (hM1 _),?_⟩;conv=>whnf
 refine ⟨rfl,⟨by omega,by omega⟩,?_⟩;conv=>whnf
 refine ⟨_,D2 (hM2 _),?_⟩;conv=>whnf
 refine J7 (A0 ..) rfl (by omega) (A5 ..) (by rfl) ?_
 rw [B8];conv=>whnf
 refine J7 (A0 ..) rfl (by omega) (A5 ..) (by rfl) ?_
 rw [B8];conv=>whnf
 refine lp (min 3 (x.zones.getD (k:Int).toNat default).rates.length) [1,2,3,4,5,6] (fun c vs s'=>∃ rv f5,vs=[.fptr (B0I x) 0,.optr 4 b2 0 0,.optr 4 b3 0 0,eI k,.optr 4 b5 0 0,eI c]∧f5 0=.agg [eS (W4 k),rv,eI M1,eI M2] ∧
   ∃ s1,H9 177 4 g (upd (upd (upd st b2 ⟨26,4,1,fun _=>K6 r26.zero⟩) b3 ⟨26,4,1,f⟩) b5 ⟨177,4,1,f5⟩) k zv s1∧ROut (A1E (fun j=>(F0 x.zones j).rates) sv k) 212 2 (A6d RL) c s1 rv s') ?_ ?_
 ·conv=>whnf
  exact ⟨.emp,_,rfl,by first | rfl | (rw [A5];rfl),B4R (hbeg _) _ _ _⟩
 rintro c vs s' hc ⟨rv,f5,rfl,hf5,s1,hcol,hrt⟩
 have hsup':=ROut.sup hB hrt
 have at5:s' b5=some ⟨177,4,1,f5⟩:=hsup' b5 _ (hcol.sup b5 _ (A0 ..))
 have at3':s' b3=some ⟨26,4,1,f⟩:=hsup' b3 _ (hcol.sup b3 _ (by rw [A9 h35];exact A0 ..))
 conv=>whnf
 refine C4 (fun h3=>?_) (fun h3=>?_)<;>rw [h3]<;>simp only [decide_eq_true_eq,decide_eq_false_iff_not] at h3
 case' refine_1 =>
  conv=>whnf
  refine ⟨rfl,⟨by omega,by omega⟩,?_⟩;conv=>whnf
  refine C4 (fun h4=>?_) (fun h4=>?_)<;>rw [h4]<;>simp only [decide_eq_true_eq,decide_eq_false_iff_not] at h4
 case refine_1.refine_1 =>
  have hc':c<min 3 (x.zones.getD (k:Int).toNat default).rates.length:=by omega
  have hra:=hrl c hc'
  rcases ROut.head hrt with rfl | ⟨br,rfl⟩
  all_goals
   conv=>whnf
   refine ⟨[17,19],[14],List.range 20,by kernel_rfl,?_⟩;conv=>whnf
   refine E9 at5 rfl (by omega) hf5 ?_;conv=>whnf
   refine ⟨_,D2 (A3K _ _),?_⟩;conv=>whnf
   refine ⟨rfl,⟨by omega,by omega⟩,?_⟩;conv=>whnf
   refine ⟨rfl,⟨by omega,by omega⟩,?_⟩;conv=>whnf
   refine ⟨_,fun s _=>D2 (M0 _ 3000 (by decide) (by decide) s),?_⟩;conv=>whnf
   refine ⟨_,⟨rfl,rfl⟩,?_⟩;conv=>whnf
   refine ROut.app (q:=C2M) hB rfl rfl rfl rfl rfl (f:=A6d RL) (by show _=A0f _;rw [hra];rfl) (by show (c+1) * 24≤140737488355328;omega) hrt (fun rv' t2 hrt2=>?_)
   have at5':t2 b5=some ⟨177,4,1,f5⟩:=ROut.sup hB hrt2 b5 _ (hcol.sup b5 _ (A0 ..))
   rcases ROut.head hrt2 with rfl | ⟨br',rfl⟩
   all_goals
    conv=>whnf
    refine J7 at5' rfl (by omega) hf5 (by rfl) ?_;conv=>whnf
    refine ⟨rfl,?_⟩;conv=>whnf
    exact nx hc' ⟨_,_,by rw [C2 (by omega)],(by rw [A5];rfl),C3d hB hcol hrt2 _⟩
 all_goals
  have hce:RL.length=c:=by omega
  rw [←hce] at hrt
  rcases ROut.head hR with rfl | ⟨bz,rfl⟩
  all_goals
   rcases ROut.head hrt with rfl | ⟨br,rfl⟩
   all_goals
    conv=>whnf
    refine E9 at3' rfl (by omega) hf ?_;conv=>whnf
    refine E9 at5 rfl (by omega) hf5 ?_;conv=>whnf
    refine tail' _ s1 _ _ hcol hrt _ _ rfl rfl _ (fun zv' t2 q1 q2 q3=>?_)
    rcases q2 with rfl | ⟨bq,rfl⟩
    all_goals
     conv=>whnf
     refine J7 q1 rfl (by omega) hf (by rfl) ?_;conv=>whnf
     refine ⟨rfl,?_⟩;conv=>whnf
     exact nx hk3 ⟨_,_,by rw [C2 (by omega)],(by rw [A5];rfl),q3 _⟩
def A1v (scopes:List O5) (x:Ab.Item) (k:Nat):List Int:=((List.range k).filter fun j=>A1T (scopes.getD j default) x).map Int.ofNat
theorem B5H (scopes:List O5) (x:Ab.Item) (k:Nat):A1v scopes x (k+1)=A1v scopes x k++(if A1T (scopes.getD k default) x=true then [(k:Int)] else []):=by
 unfold A1v
 rw [List.range_succ,List.filter_append,List.map_append]
 congr 1
 by_cases h:A1T (scopes.getD k default) x=true
 ·rw [if_pos h,List.filter_cons_of_pos (by exact h)];rfl
 ·rw [if_neg h,List.filter_cons_of_neg (by exact h)];rfl
theorem B1k (scopes:List O5) (x:Ab.Item) (k:Nat):(A1v scopes x k).length≤k:=by
 unfold A1v
 rw [List.length_map]
 exact Nat.le_trans (List.length_filter_le ..) (by rw [List.length_range];exact Nat.le_refl _)
set_option maxHeartbeats 2000000 in
theorem C0d (x:Ab.Item) (scopes:List O5) (hn:scopes.length≤100000) (hs:∀ s∈scopes,s.skus.length≤20∧s.cats.length≤20) (st:St) :
  S P 197 [.arr 4 1 (fun _=>E5 x),B1 2 J8 scopes] st fun v st'=>v=B1 1 B6 [A1v scopes x scopes.length]∧st'=st:=by
 refine S.post (post:=fun v u=>∃ bo sv f,v=.own 1 bo 0 1∧f 0=sv∧st bo=none∧ROut F3 3 1 (fun k=>eI (gI (A1v scopes x scopes.length) k)) (A1v scopes x scopes.length).length (upd st bo ⟨29,1,1,f⟩) sv u) ?_ (fun v u hv=>?_)
 ·refine A7 [7,12] C0 mixed Tryz.func197 (by rfl) rfl rfl rfl ?_;conv=>whnf
  refine mkO rfl rfl rfl (by show 24 * 1≤_;omega) (by omega) (by rfl) (fun bo hbo=>?_);conv=>whnf
  refine lp scopes.length [0,5,16,17,18] (fun k vs u=>∃ sv f,vs=[.arr 4 1 (fun _=>E5 x),.own 1 bo 0 1,B1 2 J8 scopes,eI scopes.length,eI k]∧f 0=sv∧ROut F3 3 1 (fun j=>eI (gI (A1v scopes x k) j)) (A1v scopes x k).length (upd st bo ⟨29,1,1,f⟩) sv u) ?_ ?_
  ·conv=>whnf
   exact ⟨.emp,_,rfl,rfl,show ROut _ _ _ _ 0 _ _ _ from ROut.start (F3.refl _) _ _ _⟩
  rintro k vs u hk ⟨sv,f,rfl,hf,hR⟩
  conv=>whnf
  cases h1:decide ((k:Int)<(scopes.length:Int))
  ·obtain rfl:=D7 h1 hk
   conv=>whnf
   exact ⟨bo,sv,f,rfl,hf,hbo,hR⟩
  have hk':=H0 h1
  have hsc:=hs _ (B5 hk')
  obtain ⟨s,hse⟩:∃ s,s=scopes.getD (k:Int).toNat default:=⟨_,rfl⟩
  have hsk:scopes.getD k default=s:=by rw [hse];rfl
  rw [hsk] at hsc
  have w:IntKind.i64.wrap ((s.skus.length:Int)+(s.cats.length:Int))=((s.skus.length+s.cats.length:Nat):Int):=by rw [A8 (by omega) (by omega)];omega
  have hup:=B5H scopes x k
  rw [hsk] at hup
  have hl:=B1k scopes x k
  have n1:=fun u=>B2x s.skus x.sku (by omega) u
  have n2:=fun u=>B2x s.cats x.cat (by omega) u
  conv=>whnf
  refine ⟨rfl,⟨by omega,by omega⟩,?_⟩;conv=>whnf
  rw [←hse]
  refine ⟨[],[],List.range 8,by kernel_rfl,?_⟩;conv=>whnf
  rw [w,A1U]
  generalize hall:(s.skus.length+s.cats.length==0)=all
  refine lp 1 [0,5,6,8,9,10,16,17,18,37,38,39] (fun i vs u=>∃ sv f L,vs=[.arr 4 1 (fun _=>E5 x),.own 1 bo 0 1,eI k,.fn (.func 277) [D6 s.skus] [],.fn (.func 277) [D6 s.cats] [],.bool all,B1 2 J8 scopes,eI scopes.length,eI k,.arr 4 1 (fun _=>E5 x),eI 1,eI i]∧L=A1v scopes x (k+i)∧f 0=sv∧ROut F3 3 1 (fun j=>eI (gI L j)) L.length (upd st bo ⟨29,1,1,f⟩) sv u) ?_ ?_
  ·conv=>whnf
   exact ⟨sv,f,_,rfl,rfl,hf,hR⟩
  clear hR hf
  rintro i vs u hi ⟨sv,f,L,rfl,hL,hf,hR⟩
  conv=>whnf
  cases h2:decide ((i:Int)<((1:Nat):Int))
  ·have:=of_decide_eq_false h2
   obtain rfl:i=1:=by omega
   conv=>whnf
   refine ⟨rfl,?_⟩;conv=>whnf
   exact nx hk' ⟨sv,f,by rw [C2 (by omega)],hf,by rw [←hL];exact hR⟩
  ·have:=of_decide_eq_true h2
   obtain rfl:i=0:=by omega
   rw [Nat.add_zero] at hL
   have atO:=ROut.sup C8 hR bo _ (A0 ..)
   have step:∀ b:Bool,A1T s x=b→A1v scopes x (k+(0+1))=L++(if b=true then [(k:Int)] else []):=fun b hb=>by rw [Nat.zero_add,hup,hb,hL]
   conv=>whnf
   refine ⟨rfl,⟨by omega,by omega⟩,?_⟩;conv=>whnf
   cases all
   case' true=>have hb:A1T s x=true:=by unfold A1T;rw [hall];rfl
   case' false =>
    conv=>whnf
    refine B3 (n1 _) ?_;conv=>whnf
    cases h3:inB s.skus x.sku
   case' false.true=>have hb:A1T s x=true:=by unfold A1T;rw [hall,h3];rfl
   case' false.false =>
    conv=>whnf
    refine B3 (n2 _) ?_;conv=>whnf
    cases h4:inB s.cats x.cat
   case' false.false.true=>have hb:A1T s x=true:=by unfold A1T;rw [hall,h3,h4];rfl
   case false.false.false =>
    have hb:A1T s x=false:=by unfold A1T;rw [hall,h3,h4];rfl
    conv=>whnf
    refine ⟨rfl,?_⟩;conv=>whnf
    exact nx (i:=0) (by omega) ⟨sv,f,L,by rw [C2 (by omega)],by rw [step false hb];simp,hf,hR⟩
   all_goals
    have st1:=step true hb
    rw [if_pos rfl] at st1
    have hLl:L.length≤100000:=by rw [hL];omega
    conv=>whnf
    refine ⟨rfl,⟨by omega,by omega⟩,?_⟩;conv=>whnf
    rcases ROut.head hR with rfl | ⟨bi,rfl⟩
    all_goals
     refine E9 atO rfl (by omega) hf ?_;conv=>whnf
     refine ROut.app (q:=r3) C8 rfl rfl rfl rfl rfl (f:=fun j=>eI (gI (L++[(k:Int)]) j)) (by show eI _=eI _;unfold gI;rw [A7E]) (by show (L.length+1) * 8≤140737488355328;omega) (ROut.congr hR fun j hj=>by show eI _=eI _;unfold gI;rw [A0g hj]) (fun sv' t2 hR2=>?_);conv=>whnf
     refine ⟨rfl,⟨by omega,by omega⟩,?_⟩;conv=>whnf
     refine B4P (ROut.sup C8 hR2 bo _ (A0 ..)) rfl rfl (by omega) hf (ROut.one hR2) (by decide) ?_;conv=>whnf
     refine ⟨rfl,?_⟩;conv=>whnf
     exact nx (i:=0) (by omega) ⟨sv',G6 f 0 sv',L++[(k:Int)],by rw [C2 (by omega)],st1.symm,A5 ..,by
      have:=ROut.putB (y':=⟨29,1,1,G6 f 0 sv'⟩) C8 hR2
      rw [List.length_append];exact this⟩
 ·obtain ⟨bo,sv,f,rfl,hf,hbo,hR⟩:=hv
  obtain ⟨t1,h1,h2⟩:=ROut.shift C8 hR
  have at1:=ROut.sup C8 hR bo _ (A0 ..)
  have at2:=h2 bo _ (A0 ..)
  have h3:=fun vs=>B4.elem (vs:=vs) h1 at1 at2 (show 0<1 by omega) hf (ROut.one hR) rfl
  refine ⟨_,st,⟨rfl,rfl⟩,(h3 _).trans ((L0 (f:=fun i=>B6 ([A1v scopes x scopes.length].getD i default)) (A0 ..) rfl (Nat.le_refl _) (fun i hi=>?_)).trans (F3.shift (fun b y hb=>?_) _))⟩
  ·obtain rfl:i=0:=by have:i<1:=hi;omega
   show G6 f 0 _ 0=_
   rw [A5];rfl
  ·have hne:b≠bo:=fun e=>by subst e;rw [hbo] at hb;cases hb
   rw [A0M hne,A9 hne]
   exact h2 b y (by rw [A9 hne];exact hb)
theorem B3A (l:List Ab.Item) (hl:l.length≤100000) (st:St):S P 183 [B1 4 E5 l] st fun v st'=>G4 64 4 E5 l st v st':=by
 refine A7 [] C0 mixed Tryz.func183 (by rfl) rfl rfl rfl ?_
 cases l with
 | nil =>
  conv=>whnf
  refine ⟨?_,?_⟩
  ·conv=>whnf
   exact H9.start _ _ _ _
  ·conv=>whnf
   refine apE rfl rfl rfl rfl rfl (by show 0 * 48≤_;omega) (fun _=>?_) (fun h=>absurd h (by show ¬ 0<0;omega));conv=>whnf
   exact H9.start _ _ _ _
 | cons u us =>
  conv=>whnf
  refine H9.apps (n:=0) (m:=us.length+1) (q:=r64) (f:=fun k=>E5 ((u::us).getD k default)) rfl rfl rfl rfl rfl (fun i hi=>by rw [Nat.zero_add]) (by show (0+(us.length+1)) * 48≤140737488355328;simp only [List.length_cons] at hl;omega) (H9.start _ _ _ _) (fun sv' st'' hc'=>?_);conv=>whnf
  rw [Nat.zero_add] at hc'
  exact hc'
theorem B1Y (l:List Ab.Item) (hl:l.length≤100000) (st:St):S P 183 [B1 4 E5 l] st fun v st'=>v=B1 4 E5 l∧st'=st:=Z8 (B3A l hl st)
theorem B2a (l:List B2) (hl:l.length≤100000) (st:St):S P 184 [B1 15 B9 l] st fun v st'=>G4 71 15 B9 l st v st':=by
 refine A7 [] C0 mixed Tryz.func184 (by rfl) rfl rfl rfl ?_
 cases l with
 | nil =>
  conv=>whnf
  refine ⟨?_,?_⟩
  ·conv=>whnf
   exact H9.start _ _ _ _
  ·conv=>whnf
   refine apE rfl rfl rfl rfl rfl (by show 0 * 208≤_;omega) (fun _=>?_) (fun h=>absurd h (by show ¬ 0<0;omega));conv=>whnf
   exact H9.start _ _ _ _
 | cons u us =>
  conv=>whnf
  refine H9.apps (n:=0) (m:=us.length+1) (q:=r71) (f:=fun k=>B9 ((u::us).getD k default)) rfl rfl rfl rfl rfl (fun i hi=>by rw [Nat.zero_add]) (by show (0+(us.length+1)) * 208≤140737488355328;simp only [List.length_cons] at hl;omega) (H9.start _ _ _ _) (fun sv' st'' hc'=>?_);conv=>whnf
  rw [Nat.zero_add] at hc'
  exact hc'
theorem B3E (l:List U6) (hl:l.length≤100000) (st:St):S P 185 [B1 4 S8 l] st fun v st'=>G4 177 4 S8 l st v st':=by
 refine A7 [] C0 mixed Tryz.func185 (by rfl) rfl rfl rfl ?_
 cases l with
 | nil =>
  conv=>whnf
  refine ⟨?_,?_⟩
  ·conv=>whnf
   exact H9.start _ _ _ _
  ·conv=>whnf
   refine apE rfl rfl rfl rfl rfl (by show 0 * 56≤_;omega) (fun _=>?_) (fun h=>absurd h (by show ¬ 0<0;omega));conv=>whnf
   exact H9.start _ _ _ _
 | cons u us =>
  conv=>whnf
  refine H9.apps (n:=0) (m:=us.length+1) (q:=C0G) (f:=fun k=>S8 ((u::us).getD k default)) rfl rfl rfl rfl rfl (fun i hi=>by rw [Nat.zero_add]) (by show (0+(us.length+1)) * 56≤140737488355328;simp only [List.length_cons] at hl;omega) (H9.start _ _ _ _) (fun sv' st'' hc'=>?_);conv=>whnf
  rw [Nat.zero_add] at hc'
  exact hc'
theorem B5n (l:List E0) (hl:l.length≤100000) (st:St):S P 98 [B1 1 eS l] st fun v st'=>G4 9 1 eS l st v st':=by
 refine A7 [] C0 mixed Tryz.func98 (by rfl) rfl rfl rfl ?_
 cases l with
 | nil =>
  conv=>whnf
  refine ⟨?_,?_⟩
  ·conv=>whnf
   exact H9.start _ _ _ _
  ·conv=>whnf
   refine apE rfl rfl rfl rfl rfl (by show 0 * 16≤_;omega) (fun _=>?_) (fun h=>absurd h (by show ¬ 0<0;omega));conv=>whnf
   exact H9.start _ _ _ _
 | cons u us =>
  conv=>whnf
  refine H9.apps (n:=0) (m:=us.length+1) (q:=r9) (f:=fun k=>eS ((u::us).getD k default)) rfl rfl rfl rfl rfl (fun i hi=>by rw [Nat.zero_add]) (by show (0+(us.length+1)) * 16≤140737488355328;simp only [List.length_cons] at hl;omega) (H9.start _ _ _ _) (fun sv' st'' hc'=>?_);conv=>whnf
  rw [Nat.zero_add] at hc'
  exact hc'
theorem A4z (l:List E0) (hl:l.length≤100000) (st:St):S P 98 [B1 1 eS l] st fun v st'=>v=B1 1 eS l∧st'=st:=Z8 (B5n l hl st)
theorem B3B (l:List Q0) (hl:l.length≤100000) (st:St):S P 187 [B1 3 O6 l] st fun v st'=>G4 237 3 O6 l st v st':=by
 refine A7 [] C0 mixed Tryz.func187 (by rfl) rfl rfl rfl ?_
 cases l with
 | nil =>
  conv=>whnf
  refine ⟨?_,?_⟩
  ·conv=>whnf
   exact H9.start _ _ _ _
  ·conv=>whnf
   refine apE rfl rfl rfl rfl rfl (by show 0 * 56≤_;omega) (fun _=>?_) (fun h=>absurd h (by show ¬ 0<0;omega));conv=>whnf
   exact H9.start _ _ _ _
 | cons u us =>
  conv=>whnf
  refine H9.apps (n:=0) (m:=us.length+1) (q:=C2O) (f:=fun k=>O6 ((u::us).getD k default)) rfl rfl rfl rfl rfl (fun i hi=>by rw [Nat.zero_add]) (by show (0+(us.length+1)) * 56≤140737488355328;simp only [List.length_cons] at hl;omega) (H9.start _ _ _ _) (fun sv' st'' hc'=>?_);conv=>whnf
  rw [Nat.zero_add] at hc'
  exact hc'
theorem B3C (l:List Y8) (hl:l.length≤100000) (st:St):S P 188 [B1 3 L7 l] st fun v st'=>G4 250 3 L7 l st v st':=by
 refine A7 [] C0 mixed Tryz.func188 (by rfl) rfl rfl rfl ?_
 cases l with
 | nil =>
  conv=>whnf
  refine ⟨?_,?_⟩
  ·conv=>whnf
   exact H9.start _ _ _ _
  ·conv=>whnf
   refine apE rfl rfl rfl rfl rfl (by show 0 * 24≤_;omega) (fun _=>?_) (fun h=>absurd h (by show ¬ 0<0;omega));conv=>whnf
   exact H9.start _ _ _ _
 | cons u us =>
  conv=>whnf
  refine H9.apps (n:=0) (m:=us.length+1) (q:=C0H) (f:=fun k=>L7 ((u::us).getD k default)) rfl rfl rfl rfl rfl (fun i hi=>by rw [Nat.zero_add]) (by show (0+(us.length+1)) * 24≤140737488355328;simp only [List.length_cons] at hl;omega) (H9.start _ _ _ _) (fun sv' st'' hc'=>?_);conv=>whnf
  rw [Nat.zero_add] at hc'
  exact hc'
theorem B2c (l:List Y8) (hl:l.length≤100000) (st:St):S P 188 [B1 3 L7 l] st fun v st'=>v=B1 3 L7 l∧st'=st:=Z8 (B3C l hl st)
theorem B5m (l:List Int) (hl:l.length≤100000) (st:St):S P 104 [B1 1 eI l] st fun v st'=>G4 3 1 eI l st v st':=by
 refine A7 [] C0 mixed Tryz.func104 (by rfl) rfl rfl rfl ?_
 cases l with
 | nil =>
  conv=>whnf
  refine ⟨?_,?_⟩
  ·conv=>whnf
   exact H9.start _ _ _ _
  ·conv=>whnf
   refine apE rfl rfl rfl rfl rfl (by show 0 * 8≤_;omega) (fun _=>?_) (fun h=>absurd h (by show ¬ 0<0;omega));conv=>whnf
   exact H9.start _ _ _ _
 | cons u us =>
  conv=>whnf
  refine H9.apps (n:=0) (m:=us.length+1) (q:=r3) (f:=fun k=>eI ((u::us).getD k default)) rfl rfl rfl rfl rfl (fun i hi=>by rw [Nat.zero_add]) (by show (0+(us.length+1)) * 8≤140737488355328;simp only [List.length_cons] at hl;omega) (H9.start _ _ _ _) (fun sv' st'' hc'=>?_);conv=>whnf
  rw [Nat.zero_add] at hc'
  exact hc'
theorem A8c (l:List Int) (hl:l.length≤100000) (st:St):S P 104 [B1 1 eI l] st fun v st'=>v=B1 1 eI l∧st'=st:=Z8 (B5m l hl st)
theorem A8d (l:List F5) (hl:l.length≤100000) (st:St):S P 101 [B1 3 F7 l] st fun v st'=>G4 51 3 F7 l st v st':=by
 refine A7 [] C0 mixed Tryz.func101 (by rfl) rfl rfl rfl ?_
 cases l with
 | nil =>
  conv=>whnf
  refine ⟨?_,?_⟩
  ·conv=>whnf
   exact H9.start _ _ _ _
  ·conv=>whnf
   refine apE rfl rfl rfl rfl rfl (by show 0 * 32≤_;omega) (fun _=>?_) (fun h=>absurd h (by show ¬ 0<0;omega));conv=>whnf
   exact H9.start _ _ _ _
 | cons u us =>
  conv=>whnf
  refine H9.apps (n:=0) (m:=us.length+1) (q:=r51) (f:=fun k=>F7 ((u::us).getD k default)) rfl rfl rfl rfl rfl (fun i hi=>by rw [Nat.zero_add]) (by show (0+(us.length+1)) * 32≤140737488355328;simp only [List.length_cons] at hl;omega) (H9.start _ _ _ _) (fun sv' st'' hc'=>?_);conv=>whnf
  rw [Nat.zero_add] at hc'
  exact hc'
theorem B1Z (l:List F5) (hl:l.length≤100000) (st:St):S P 101 [B1 3 F7 l] st fun v st'=>v=B1 3 F7 l∧st'=st:=Z8 (A8d l hl st)
theorem B4.arr1 {e:Nat} {f g:Nat→AV} {st:St} (h:f 0=g 0):B4 [.arr e 1 f] st [.arr e 1 g] st:=B4.arr fun i hi=>by
 obtain rfl:i=0:=by omega
 exact h
structure A0w where
 r:F9
 codes:List E0
 lines:List F5
 places:List Int
 scopes:List O5
 opens:List (List Int)
def A2H (d:A0w) (lv pv cv ov:AV):AV:=.agg [B1 4 E5 d.r.items,B1 15 B9 d.r.promos,eB d.r.tax.incl,eB d.r.tax.byOrder,eI d.r.tax.round,B1 4 S8 d.r.tax.zones,eI d.r.ship.fee,eI d.r.ship.free,eI d.r.policy.window,eI d.r.policy.grace,eI d.r.policy.mode,eI d.r.policy.restock,B6 d.r.policy.order,B6 d.r.policy.credit,D6 d.codes,lv,pv,cv,ov]
abbrev A5O (d:A0w) (ov:AV):AV:=A2H d (B1 3 F7 d.lines) (B6 d.places) (B1 2 J8 d.scopes) ov
abbrev A9E (d:A0w) (ov:AV):St→St→Prop:=fun s t=>ROut F3 29 1 (fun k=>B6 (d.opens.getD k default)) d.opens.length s ov t
def C3P (d:A0w) (ov:AV) (y:Q3):Prop:=∃ f,y=⟨165,19,1,f⟩∧f 0=A5O d ov
def A4a (bd:Nat) (d:A0w):St→St→Prop:=fun s t=>∃ ov,A1a bd (C3P d ov) (A9E d ov) s t
theorem A6c (bd:Nat) (d:A0w):H2 (A4a bd d):=B3v fun _=>A1S (N2 C8 _ _ _ _ _)
theorem A4a.at {bd:Nat} {d:A0w} {s t:St} (h:A4a bd d s t):∃ ov f,t bd=some ⟨165,19,1,f⟩∧f 0=A5O d ov∧s bd=none∧A9E d ov (upd s bd ⟨165,19,1,f⟩) t:=by
 obtain ⟨ov,h1,y,⟨f,rfl,hf⟩,h3⟩:=h
 exact ⟨ov,f,ROut.sup C8 h3 bd _ (A0 ..),hf,h1,h3⟩
theorem A4a.more {bd:Nat} {d:A0w} {s t t':St} (h:A4a bd d s t) (hs:F3 t t'):A4a bd d s t':=by
 obtain ⟨ov,h1,y,h2,s0,h3,h4⟩:=h
 exact ⟨ov,h1,y,h2,s0,h3,h4.trans hs⟩
structure B1K (d:A0w):Prop where
 items:d.r.items.length≤100000
 nplaces:d.places.length=d.scopes.length
 few:d.scopes.length≤100000
 scopes:∀ s∈d.scopes,s.skus.length≤20∧s.cats.length≤20
 lines:d.lines.length≤1000
 nopens:d.opens.length=d.lines.length
def B1T (d:A0w) (sku:E0):List Int:=(A1v d.scopes (d.r.items.getD (X5 d.r.items sku).toNat default) d.scopes.length).map fun k=>gI d.places k.toNat
set_option maxHeartbeats 2000000 in
theorem C1Z (bd:Nat) (d:A0w) (x:F5) (hok:B1K d) (hk:known d.r.items x.sku=true) (t:St) (f:Nat→AV) (lv ov:AV) (atd:t bd=some ⟨165,19,1,f⟩) (hf:f 0=A2H d lv (B6 d.places) (B1 2 J8 d.scopes) ov):S P 103 [.optr 19 bd 0 0,F7 x] t fun v t'=>v=B6 (B1T d x.sku)∧t'=t:=by
 have hit:=hok.items
 have hfew:=hok.few
 have hnp:=hok.nplaces
 have hfd:=fun u=>B5B d.r.items x.sku (by omega) u
 have hk0:0≤X5 d.r.items x.sku:=of_decide_eq_true hk
 have hk1:X5 d.r.items x.sku<d.r.items.length:=(A9n _ _).2
 have eA:B1T d x.sku=(A1v d.scopes (d.r.items.getD (X5 d.r.items x.sku).toNat default) d.scopes.length).map fun k=>gI d.places k.toNat:=rfl
 generalize X5 d.r.items x.sku=I at hfd hk0 hk1 eA
 have hix:=fun u=>C0d (d.r.items.getD I.toNat default) d.scopes hfew hok.scopes u
 obtain ⟨it,hite⟩:∃ it,d.r.items.getD I.toNat default=it:=⟨_,rfl⟩
 rw [hite] at hix eA
 have hul:=B1k d.scopes it d.scopes.length
 have hum:∀ k,k∈A1v d.scopes it d.scopes.length→0≤k∧k.toNat<d.places.length:=fun k hk=>by
  obtain ⟨j,hj,rfl⟩:=List.mem_map.1 hk
  have:=List.mem_range.1 (List.mem_filter.1 hj).1
  exact ⟨Int.natCast_nonneg _,by rw [hnp];simpa using this⟩
 generalize A1v d.scopes it d.scopes.length=HU at hix eA hul hum
 rw [eA]
 refine S.post (post:=fun v u=>∃ T0,F3 t T0∧H9 3 1 (fun k=>eI (gI (HU.map fun k=>gI d.places k.toNat) k)) T0 HU.length v u) ?_ (fun v u hv=>?_)
 ·refine A8S [3] C0 mixed Tryz.func103 (by rfl) rfl rfl rfl ?_;conv=>whnf
  refine .inr ⟨[15,16],.qui 0 (.qui 1 (.qui 2 (.qui 3 (.qui 4 (.qui 5 (.qui 6 (.qui 7 (.qui 8 (.qui 9 (.qui 10 (.qui 11 (.qui 12 (.qui 13 (.qui 14 (.eff 15 [4,9,11,12,14] (.eff 16 [] (.done))))))))))))))))),by kernel_rfl,?_⟩;conv=>whnf
  refine ⟨_,fun s=>s bd=some ⟨165,19,1,f⟩,atd,fun s hs=>E9 hs rfl (by omega) hf ⟨rfl,rfl⟩,?_⟩;conv=>whnf
  refine ⟨_,fun s=>s bd=some ⟨165,19,1,f⟩,atd,fun s hs=>E9 hs rfl (by omega) hf ⟨rfl,rfl⟩,?_⟩;conv=>whnf
  refine ⟨_,fun _=>True,trivial,fun s _=>⟨rfl,rfl⟩,?_⟩;conv=>whnf
  refine ⟨_,fun _=>True,trivial,fun s _=>D2 (hfd s),?_⟩;conv=>whnf
  refine ⟨rfl,⟨hk0,hk1⟩,?_⟩;conv=>whnf
  refine ⟨_,fun _=>True,trivial,fun s _=>⟨rfl,rfl⟩,?_⟩;conv=>whnf
  rw [hite];conv=>whnf
  intro b6 hb6;conv=>whnf
  have h6:bd≠b6:=fun e=>by subst e;rw [atd] at hb6;cases hb6
  iterate 5 (refine ⟨by first | exact fun _=>trivial | exact fun h=>(A9 h6).trans h,?_⟩;conv=>whnf)
  refine J7 (A0 ..) rfl (by omega) rfl (by rfl) ?_
  rw [B8];conv=>whnf
  generalize hT:(upd t b6 _:St)=T0
  obtain ⟨f6,at6,hf6⟩:∃ f6:Nat→AV,T0 b6=some ⟨64,4,1,f6⟩∧f6 0=E5 it:=by rw [←hT];exact ⟨_,A0 ..,by rw [A5];rfl⟩
  have atd0:T0 bd=some ⟨165,19,1,f⟩:=by rw [←hT,A9 h6];exact atd
  have hsup:F3 t T0:=by rw [←hT];exact (F3.refl t).upd hb6
  clear hT
  refine .inl ⟨[],[],List.range 11,by kernel_rfl,?_⟩;conv=>whnf
  refine E9 at6 rfl (by omega) hf6 ?_;conv=>whnf
  refine ⟨_,⟨rfl,rfl⟩,?_⟩;conv=>whnf
  refine E9 atd0 rfl (by omega) hf ?_;conv=>whnf
  refine ⟨_,D2 ((hix _).pre (B4.cons (B4.arr1 rfl) (B4.keep _ _))),?_⟩;conv=>whnf
  refine ⟨rfl,⟨by decide,by show (0:Int)<((1:Nat):Int);decide⟩,?_⟩;conv=>whnf
  refine lp HU.length [0,5,32,33,34] (fun i vs u=>∃ sv,vs=[.optr 19 bd 0 0,sv,B6 HU,eI HU.length,eI i]∧H9 3 1 (fun k=>eI (gI (HU.map fun k=>gI d.places k.toNat) k)) T0 i sv u) ?_ ?_
  ·conv=>whnf
   exact ⟨_,rfl,H9.start _ _ _ _⟩
  rintro i vs u hi ⟨sv,rfl,hc⟩
  conv=>whnf
  cases h1:decide ((i:Int)<(HU.length:Int))
  ·obtain rfl:=D7 h1 hi
   conv=>whnf
   exact ⟨T0,hsup,hc⟩
  ·have hi':=H0 h1
   have hg:HU.getD (i:Int).toNat default∈HU:=B5 hi'
   obtain ⟨g0,g1⟩:=hum _ hg
   have hm:gI (HU.map fun k=>gI d.places k.toNat) i=gI d.places (HU.getD (i:Int).toNat default).toNat:=E2 (fun k:Int=>gI d.places k.toNat) HU hi'
   conv=>whnf
   refine ⟨rfl,⟨by omega,by omega⟩,?_⟩;conv=>whnf
   refine E9 (hc.sup bd _ atd0) rfl (by omega) hf ?_;conv=>whnf
   refine ⟨rfl,⟨g0,by omega⟩,?_⟩;conv=>whnf
   refine H9.app (q:=r3) rfl rfl rfl rfl rfl (f:=fun k=>eI (gI (HU.map fun k:Int=>gI d.places k.toNat) k)) (by show _=eI _;rw [hm];rfl) (by show (i+1) * 8≤140737488355328;omega) hc (fun sv' u' hc'=>?_);conv=>whnf
   refine ⟨rfl,?_⟩;conv=>whnf
   exact nx hi' ⟨sv',by rw [C2 (by omega)],hc'⟩
 ·obtain ⟨T0,h1,h2⟩:=hv
  refine ⟨_,t,⟨rfl,rfl⟩,?_⟩
  have e:B6 (HU.map fun k=>gI d.places k.toNat)=.arr 1 HU.length (fun k=>eI (gI (HU.map fun k=>gI d.places k.toNat) k)):=by unfold B6 B1;rw [List.length_map]
  rw [e]
  exact h2.shift.trans (h1.shift _)
def W1 (l:List F5) (i:Nat) (x:F5):List F5:=if i=l.length then l++[x] else l.set i x
def A2z (d:A0w) (i:Int) (x:F5):Int:=if i<0∨i>d.lines.length then 2 else J3 (known d.r.items) (W1 d.lines i.toNat x)
def A4X (d:A0w) (i:Nat) (x:F5):A0w:={ d with lines:=W1 d.lines i x,opens:=(if i=d.lines.length then d.opens++[[]] else d.opens).set i (B1T d x.sku) }
def B6j (d:A0w) (i:Int) (x:F5):A0w:=if A2z d i x=0 then A4X d i.toNat x else d
theorem B2Q (l:List F5) (i:Nat) (x:F5):(W1 l i x).length=if i=l.length then l.length+1 else l.length:=by
 unfold W1;split<;>simp
theorem B4I {l:List F5} {i:Nat} (hi:i≤l.length) (x:F5) (k:Nat):(W1 l i x).getD k default=if k=i then x else l.getD k default:=by
 unfold W1
 by_cases e:i=l.length
 ·rw [if_pos e]
  by_cases ek:k=i
  ·rw [if_pos ek,ek,e];simp
  ·rw [if_neg ek]
   by_cases hk:k<l.length
   ·exact A0g hk
   ·rw [List.getD_eq_getElem?_getD,List.getD_eq_getElem?_getD,List.getElem?_eq_none (by simp;omega),List.getElem?_eq_none (by omega)]
 ·rw [if_neg e,List.getD_eq_getElem?_getD,List.getElem?_set]
  by_cases ek:k=i
  ·subst ek;rw [if_pos rfl,if_pos rfl,if_pos (by omega)];rfl
  ·rw [if_neg ek,if_neg (fun h=>ek h.symm)];rfl
theorem B2P {v:AV} (h:v.one=true) (u:AV):M9 v 0 [u]=u:=by cases v<;>first | rfl | cases h
set_option maxHeartbeats 4000000 in
theorem B7R (bd:Nat) (d:A0w) (i:Int) (x:F5) (hok:B1K d) (s t:St) (h:A4a bd d s t) :
  S P 25 [.optr 19 bd 0 0,eI i,F7 x] t fun v t'=>v=eI (A2z d i x)∧A4a bd (B6j d i x) s t':=by
 obtain ⟨ov,f,atd,hf,hsd,hO⟩:=h.at
 have hll:=hok.lines
 have hno:=hok.nopens
 have hcl:=fun u=>A8d d.lines (by omega) u
 refine S.post (post:=fun v t'=>(v=eI (A2z d i x)∧A4a bd (B6j d i x) s t')∨(v=eI 0∧A2z d i x=0∧∃ b g ov' f',s b=none∧b≠bd∧(∀ k,k<(W1 d.lines i.toNat x).length→g k=F7 ((W1 d.lines i.toNat x).getD k default)) ∧
   f' 0=A2H d (.own 3 b 0 (W1 d.lines i.toNat x).length) (B6 d.places) (B1 2 J8 d.scopes) ov' ∧
   A9E (A4X d i.toNat x) ov' (upd (upd s bd ⟨165,19,1,f'⟩) b ⟨51,3,(W1 d.lines i.toNat x).length,g⟩) t')) ?_ (fun v t' hv=>?_)
 ·refine A8S [5] C0 mixed Tryz.func25 (by rfl) rfl rfl rfl ?_;conv=>whnf
  cases h1:decide (i<0)
  case true =>
   have e:A2z d i x=2:=by unfold A2z;rw [if_pos (.inl (of_decide_eq_true h1))]
   conv=>whnf
   refine .inl ⟨by rw [e];rfl,?_⟩
   unfold B6j;rw [if_neg (by rw [e];decide)];exact h
  have h1:=of_decide_eq_false h1
  conv=>whnf
  refine E9 atd rfl (by omega) hf ?_;conv=>whnf
  cases h2:decide (i>(d.lines.length:Int))
  case true =>
   have e:A2z d i x=2:=by unfold A2z;rw [if_pos (.inr (of_decide_eq_true h2))]
   conv=>whnf
   refine .inl ⟨by rw [e];rfl,?_⟩
   unfold B6j;rw [if_neg (by rw [e];decide)];exact h
  have h2:=of_decide_eq_false h2
  obtain ⟨n,rfl⟩:∃ n:Nat,i=n:=⟨i.toNat,by omega⟩
  rw [show ((n:Int)).toNat=n from rfl]
  have hn:n≤d.lines.length:=by omega
  obtain ⟨L,hL⟩:∃ L,L=W1 d.lines n x:=⟨_,rfl⟩
  have hLl:=B2Q d.lines n x
  have hLa:=B4I hn x
  rw [←hL] at hLl hLa ⊢
  have eS:A2z d n x=J3 (known d.r.items) L:=by unfold A2z;rw [if_neg (by omega),hL];rfl
  conv=>whnf
  refine E9 atd rfl (by omega) hf ?_;conv=>whnf
  refine call (hcl _) (fun sv t1 hc=>?_)
  rcases ROut.head (show ROut F3 _ _ _ _ _ sv t1 from ⟨_,hc,F3.refl _⟩) with rfl | ⟨b0,rfl⟩
  all_goals
   conv=>whnf
   refine C4 (fun h3=>?_) (fun h3=>?_)<;>rw [h3]
  case' inl.refine_1 =>
   have h3:n=d.lines.length:=by have:=eq_of_beq h3;have e0:d.lines.length=0:=by { rcases hc with ⟨h0,_⟩ | ⟨_,b,_,_,h,_⟩;exact h0;cases h };omega
  case' inr.refine_1 =>
   have h3:n=d.lines.length:=by have:=eq_of_beq h3;omega
  case inl.refine_2 =>
   have e0:d.lines.length=0:=by { rcases hc with ⟨h0,_⟩ | ⟨_,b,_,_,h,_⟩;exact h0;cases h }
   have:=ne_of_beq_false h3
   omega
  case' inr.refine_2 =>
   have h3:n≠d.lines.length:=by have:=ne_of_beq_false h3;omega
   rcases hc with ⟨_,h,_⟩ | ⟨_,b,g,hb,he,rfl,hg⟩
  case inr.refine_2.inl=>cases h
  case' inr.refine_2.inr =>
   have he:b=b0:=by cases he;rfl
   subst he
   have eLn:L.length=d.lines.length:=by rw [hLl,if_neg h3]
   have hgk:∀ k,k<L.length→k≠n→g k=F7 (d.lines.getD k default):=fun k hk _=>hg k (by omega)
   conv=>whnf
   refine ⟨rfl,⟨by omega,by omega⟩,?_⟩;conv=>whnf
   refine J7 (A0 ..) rfl (by omega) (show g (0+(n:Int).toNat)=F7 (d.lines.getD n default) by rw [show 0+(n:Int).toNat=n by omega];exact hg n (by omega)) (by rfl) ?_
   rw [B8];conv=>whnf
   rw [←eLn]
  case' inl.refine_1 | inr.refine_1 =>
   have eLn:L.length=d.lines.length+1:=by rw [hLl,if_pos h3]
   conv=>whnf
   refine H9.app (q:=r51) rfl rfl rfl rfl rfl (f:=fun k=>F7 (L.getD k default)) (by show _=F7 _;rw [hLa,if_pos h3.symm];rfl) (by show (d.lines.length+1) * 32≤140737488355328;omega) (H9.congr hc fun k hk=>by show F7 _=F7 _;rw [hLa,if_neg (by omega)]) (fun sv' t2 hc2=>?_)
   rcases hc2 with ⟨h0,_⟩ | ⟨_,b,g,hb,rfl,rfl,hg⟩
   ·omega
   have hgk:∀ k,k<L.length→k≠n→g k=F7 (d.lines.getD k default):=fun k hk hkn=>by rw [hg k (by omega)];show F7 _=F7 _;rw [hLa,if_neg hkn]
   conv=>whnf
   refine ⟨rfl,⟨by omega,by omega⟩,?_⟩;conv=>whnf
   refine J7 (A0 ..) rfl (by omega) (hg _ (by omega)) (by rfl) ?_
   rw [B8];conv=>whnf
   rw [←eLn]
  all_goals
   generalize hT:(upd t b _:St)=T2
   obtain ⟨g',hT2,hg'⟩:∃ g':Nat→AV,upd t b ⟨51,3,L.length,g'⟩=T2∧∀ k,k<L.length→g' k=F7 (L.getD k default):=by
    refine ⟨_,hT,fun k hk=>?_⟩
    rw [hLa]
    by_cases ek:k=n
    ·rw [if_pos ek,ek,show 0+(n:Int).toNat=n by omega,A5];rfl
    ·rw [if_neg ek,F4 (by omega)];exact hgk k hk ek
   have hbd:bd≠b:=fun e=>by subst e;rw [atd] at hb;cases hb
   have atd2:T2 bd=some ⟨165,19,1,f⟩:=by rw [←hT2,A9 hbd];exact atd
   have atb:T2 b=some ⟨51,3,L.length,g'⟩:=by rw [←hT2,A0]
   have hS2:F3 t T2:=by rw [←hT2];exact (F3.refl t).upd hb
   have hO2:=(N2 C8 _ _ _ _ _).begin (y:=⟨51,3,L.length,g'⟩) hO hb
   rw [hT2] at hO2
   have hsb:s b=none:=((A6c bd d).sup h).none hb
   clear hT hgk hg hT2
   try clear hc
   have hck:S P 102 [B1 4 E5 d.r.items,.own 3 b 0 L.length] T2 fun v s=>v=eI (J3 (known d.r.items) L)∧s=T2 :=
    S.lends (B6G d.r.items L (by have:=hok.items;omega) st0) ((B4.cons (B4.keep [B1 4 E5 d.r.items] T2) (L0 atb rfl (Nat.le_refl _) hg')).trans ((C3f _).shift _)) fun v hv=>⟨_,rfl,by rw [hv];exact So.int _ _⟩
   have hlc:J3 (known d.r.items) L=0→L.length≤1000∧known d.r.items x.sku=true:=fun h0=>⟨(B2r h0).len,by
    have e:L.getD n default=x:=by rw [hLa,if_pos rfl]
    rw [←e];exact (B2r h0).known _ (B5 (by omega))⟩
   refine E9 atd2 rfl (by omega) hf ?_;conv=>whnf
   refine B3 hck ?_;conv=>whnf
   generalize J3 (known d.r.items) L=E at eS hlc
   refine C4 (fun h5=>?_) (fun h5=>?_)<;>rw [h5]
  case inl.refine_1.refine_1 | inr.refine_1.refine_1 | inr.refine_2.inr.refine_1 =>
   conv=>whnf
   refine .inl ⟨by rw [eS];rfl,?_⟩
   unfold B6j
   rw [if_neg (by rw [eS];simpa using h5)]
   exact h.more hS2
  all_goals
   obtain rfl:E=0:=by simpa using h5
   obtain ⟨hL1,hkx⟩:=hlc rfl
   conv=>whnf
   refine E9 atd2 rfl (by omega) hf ?_;conv=>whnf
  case' inl.refine_1.refine_2 | inr.refine_1.refine_2 =>
   rw [show ((n:Int)==(d.lines.length:Int))=true by rw [h3];exact beq_self_eq_true _]
   rcases ROut.head hO2 with rfl | ⟨bo,rfl⟩
  case' inr.refine_2.inr.refine_2 =>
   rw [show ((n:Int)==(d.lines.length:Int))=false from beq_false_of_ne (by omega)]
  case' inl.refine_1.refine_2.inl | inl.refine_1.refine_2.inr | inr.refine_1.refine_2.inl | inr.refine_1.refine_2.inr =>
   conv=>whnf
   refine E9 atd2 rfl (by omega) hf ?_;conv=>whnf
   refine ROut.app (q:=r29) C8 rfl rfl rfl rfl rfl (f:=fun k=>if k<d.opens.length then B6 (d.opens.getD k default) else .emp) (by show _=(if _ then _ else _);rw [if_neg (Nat.lt_irrefl _)];rfl) (by show (d.opens.length+1) * 24≤140737488355328;omega) (ROut.congr hO2 fun k hk=>by rw [if_pos hk]) (fun ov' t3 hO3=>?_)
   have atd3:=ROut.sup C8 hO3 bd _ ((A9 hbd).trans (A0 ..))
   conv=>whnf
   refine B4P atd3 rfl rfl (by omega) hf (ROut.one hO3) (by decide) ?_;conv=>whnf
   generalize hT:(upd t3 bd _:St)=T4
   obtain ⟨f4,hT4,hf4⟩:∃ f4:Nat→AV,upd t3 bd ⟨165,19,1,f4⟩=T4∧f4 0=A2H d (B1 3 F7 d.lines) (B6 d.places) (B1 2 J8 d.scopes) ov':=⟨_,hT,by rw [A5];rfl⟩
   have hO4:=ROut.write (y':=⟨165,19,1,f4⟩) C8 hO3 ((A9 hbd).trans (A0 ..))
   rw [hT4,show d.opens.length+1=L.length by omega,L3 hbd,B8,L3 hbd.symm] at hO4
   have hO4:=ROut.congr (fo':=fun k=>if k=n then .emp else B6 (d.opens.getD k default)) hO4 fun k hk=>by
    by_cases ek:k=n
    ·rw [if_pos ek,if_neg (by omega)]
    ·rw [if_neg ek,if_pos (by omega)]
   have hEm:∃ eL:AV,eL.one=true∧ROut F3 29 1 (fun k=>if k=n then eL else B6 (d.opens.getD k default)) L.length (upd (upd s bd ⟨165,19,1,f4⟩) b ⟨51,3,L.length,g'⟩) ov' T4:=⟨.emp,rfl,hO4⟩
   clear hT hT4 hO3 atd3
  case' inr.refine_2.inr.refine_2 =>
   conv=>whnf
   have hO2':=hO2
   unfold A9E at hO2'
   rw [show d.opens.length=L.length by omega] at hO2'
   obtain ⟨f4,ov',T4,hf4,hT4,hO4⟩:∃ (f4:Nat→AV) (ov':AV) (T4:St),f4 0=A2H d (B1 3 F7 d.lines) (B6 d.places) (B1 2 J8 d.scopes) ov'∧T4=T2∧ROut F3 29 1 (fun k=>B6 (d.opens.getD k default)) L.length (upd (upd s bd ⟨165,19,1,f4⟩) b ⟨51,3,L.length,g'⟩) ov' T4:=⟨f,ov,T2,hf,rfl,hO2'⟩
   rw [←hT4]
   have hEm:∃ eL:AV,eL.one=true∧ROut F3 29 1 (fun k=>if k=n then eL else B6 (d.opens.getD k default)) L.length (upd (upd s bd ⟨165,19,1,f4⟩) b ⟨51,3,L.length,g'⟩) ov' T4:=⟨B6 (d.opens.getD n default),rfl,ROut.congr hO4 fun k hk=>by
    by_cases ek:k=n
    ·rw [if_pos ek,ek]
    ·rw [if_neg ek]⟩
  all_goals
   clear hO4
   obtain ⟨eL,heL,hO4⟩:=hEm
   have atd4:=ROut.sup C8 hO4 bd _ ((A9 hbd).trans (A0 ..))
   obtain ⟨bo,rfl⟩:=ROut.own0 hO4 (by omega)
   refine .inr ⟨[12,14],.qui 0 (.qui 1 (.qui 2 (.qui 3 (.qui 4 (.qui 5 (.qui 6 (.qui 7 (.qui 8 (.qui 9 (.qui 10 (.qui 11 (.eff 12 [] (.qui 13 (.eff 14 [] (.done))))))))))))))),by kernel_rfl,?_⟩;conv=>whnf
   refine ⟨_,fun s=>s bd=some ⟨165,19,1,f4⟩,atd4,fun s hs=>E9 hs rfl (by omega) hf4 ⟨rfl,rfl⟩,?_⟩;conv=>whnf
   refine ⟨_,fun _=>True,trivial,fun s _=>⟨rfl,rfl⟩,?_⟩;conv=>whnf
   refine ⟨_,fun s=>s bd=some ⟨165,19,1,f4⟩,atd4,fun s hs=>D2 (C1Z bd d x hok hkx s f4 _ _ hs hf4),?_⟩;conv=>whnf
   refine J7 atd4 rfl (by omega) hf4 (by rfl) ?_;conv=>whnf
   refine ⟨rfl,⟨by omega,by omega⟩,?_⟩;conv=>whnf
   have hO5:=ROut.write (y':=⟨165,19,1,G6 f4 0 (A2H d (.own 3 b 0 L.length) (B6 d.places) (B1 2 J8 d.scopes) (.own 1 bo 0 L.length))⟩) C8 hO4 ((A9 hbd).trans (A0 ..))
   rw [L3 hbd,B8,L3 hbd.symm] at hO5
   obtain ⟨go,ato,hgo,puto⟩:=ROut.cell C8 hO5 (by omega)
   refine B4P ato rfl rfl (by omega) (show go (0+(n:Int).toNat)=eL by rw [show 0+(n:Int).toNat=n by omega,hgo n (by omega),if_pos rfl]) rfl (by decide) ?_;conv=>whnf
   refine .inr ⟨rfl,eS,b,g',.own 1 bo 0 L.length,G6 f4 0 (A2H d (.own 3 b 0 L.length) (B6 d.places) (B1 2 J8 d.scopes) (.own 1 bo 0 L.length)),hsb,hbd.symm,hg',A5 ..,?_⟩
   have e:(A4X d n x).opens.length=L.length:=by
    show (List.set _ _ _).length=_
    rw [List.length_set];split
    ·rw [List.length_append];show d.opens.length+1=_;rw [hLl,if_pos ‹_›];omega
    ·rw [hLl,if_neg ‹_›];omega
   show ROut _ _ _ _ (A4X d n x).opens.length _ _ _
   rw [e]
   refine puto _ _ fun k hk=>?_
   have ee:(A4X d n x).opens.getD k default=if k=n then B1T d x.sku else d.opens.getD k default:=by
    show (List.set _ _ _).getD k default=_
    by_cases ek:k=n
    ·subst ek
     rw [if_pos rfl,List.getD_eq_getElem?_getD,List.getElem?_set,if_pos rfl,if_pos (by have:=e;simp only [A4X,List.length_set] at this;omega)];rfl
    ·rw [if_neg ek,List.getD_eq_getElem?_getD,List.getElem?_set,if_neg (fun h=>ek h.symm)]
     show ((if n=d.lines.length then d.opens++[[]] else d.opens)[k]?).getD default=_
     by_cases en:n=d.lines.length
     ·rw [if_pos en,←List.getD_eq_getElem?_getD]
      exact A0g (by omega)
     ·rw [if_neg en];rfl
   rw [ee]
   by_cases ek:k=n
   ·rw [ek,show 0+(n:Int).toNat=n by omega,A5,if_pos rfl];exact B2P heL _
   ·rw [F4 (by omega),hgo k hk,if_neg ek,if_neg ek]
 ·rcases hv with hv | ⟨rfl,e0,b,g,ov',f',hsb,hbb,hg,hf',hO'⟩
  ·exact ⟨_,_,hv,B4.refl _ _⟩
  ·have hB:H2 (A9E (A4X d i.toNat x) ov'):=N2 C8 _ _ _ _ _
   have atb:=hB.sup hO' b _ (A0 ..)
   have atd':=hB.sup hO' bd _ ((A9 hbb.symm).trans (A0 ..))
   have sh:=L0 (f:=fun k=>F7 ((W1 d.lines i.toNat x).getD k default)) atb rfl (Nat.le_refl _) hg
   have hfor:=hB.forget hO' ((A9 hbb).trans hsb)
   have hc:=fun vs=>B4.cell (vs:=vs) (pre:=[B1 4 E5 d.r.items,B1 15 B9 d.r.promos,eB d.r.tax.incl,eB d.r.tax.byOrder,eI d.r.tax.round,B1 4 S8 d.r.tax.zones,eI d.r.ship.fee,eI d.r.ship.free,eI d.r.policy.window,eI d.r.policy.grace,eI d.r.policy.mode,eI d.r.policy.restock,B6 d.r.policy.order,B6 d.r.policy.credit,D6 d.codes]) (post:=[B6 d.places,B1 2 J8 d.scopes,ov']) sh atd' ((A0M hbb.symm).trans atd') (show 0<1 by omega) hf' rfl
   refine ⟨eI 0,_,⟨by rw [e0],?_⟩,hc _⟩
   unfold B6j
   rw [if_pos e0]
   refine ⟨ov',hsd,⟨165,19,1,G6 f' 0 (A5O (A4X d i.toNat x) ov')⟩,⟨G6 f' 0 (A5O (A4X d i.toNat x) ov'),rfl,A5 ..⟩,?_⟩
   have:=hB.write (y':=⟨165,19,1,G6 f' 0 (A5O (A4X d i.toNat x) ov')⟩) hfor (A0 ..)
   rw [B8] at this
   exact this
end Go.Proofs.YtbajhapmlfbelaaGreat
namespace Go.Proofs.YtbajhapmlfbelaaGreat
open Go Go.Ab
theorem B6q {l:List Int} {B:Int} (hB:0≤B) (h:∀ x∈l,-B≤x∧x≤B) : -(l.length * B)≤A6 l∧A6 l≤l.length * B:=by
 induction l with
 | nil=>exact ⟨by show -(((0:Nat):Int) * B)≤0;rw [Int.natCast_zero,Int.zero_mul];omega,by show (0:Int)≤((0:Nat):Int) * B;rw [Int.natCast_zero,Int.zero_mul];omega⟩
 | cons x l ih =>
  have h1:=ih fun y hy=>h y (List.mem_cons_of_mem _ hy)
  have h2:=h x (List.mem_cons_self ..)
  rw [N6,List.length_cons,show ((l.length+1:Nat):Int) * B=l.length * B+B by rw [Int.natCast_add,Int.add_mul];simp]
  omega
structure A2c (l:List Int):Prop where
 len:l.length≤1000
 all:∀ x∈l,-10000000000000≤x∧x≤10000000000000
theorem A2c.take {l:List Int} (h:A2c l) (i:Nat) : -10000000000000000≤A6 (l.take i)∧A6 (l.take i)≤10000000000000000:=by
 have h1:=B6q (l:=l.take i) (B:=10000000000000) (by decide) fun x hx=>h.all x (List.mem_of_mem_take hx)
 have h2:(l.take i).length≤1000:=by rw [List.length_take];have:=h.len;omega
 omega
theorem A2c.sum {l:List Int} (h:A2c l) : -10000000000000000≤A6 l∧A6 l≤10000000000000000:=by
 have:=h.take l.length
 rwa [List.take_length] at this
theorem A2c.step {l:List Int} (h:A2c l) {i:Nat} (hi:i<l.length):IntKind.i64.wrap (A6 (l.take i)+gI l i)=A6 (l.take (i+1)):=by
 have h1:=h.take (i+1)
 rw [N7 hi] at h1 ⊢
 exact A8 (by omega) (by omega)
end Go.Proofs.YtbajhapmlfbelaaGreat
namespace Go.Proofs.YtbajhapmlfbelaaGreat
open Go Go.Ab
attribute [local irreducible] upd del
theorem B2b (l:List G8) (hl:l.length≤100000) (st:St):S P 261 [B1 2 A0f l] st fun v st'=>v=B1 2 A0f l∧st'=st:=by
 refine Z8 (ty:=212) ?_
 refine A7 [] C0 mixed Tryz.func261 (by rfl) rfl rfl rfl ?_
 cases l with
 | nil =>
  conv=>whnf
  refine ⟨?_,?_⟩
  ·conv=>whnf
   exact H9.start _ _ _ _
  ·conv=>whnf
   refine apE rfl rfl rfl rfl rfl (by show 0 * 24≤_;omega) (fun _=>?_) (fun h=>absurd h (by show ¬ 0<0;omega));conv=>whnf
   exact H9.start _ _ _ _
 | cons u us =>
  conv=>whnf
  refine H9.apps (n:=0) (m:=us.length+1) (q:=C2M) (f:=fun k=>A0f ((u::us).getD k default)) rfl rfl rfl rfl rfl (fun i hi=>by rw [Nat.zero_add]) (by show (0+(us.length+1)) * 24≤140737488355328;simp only [List.length_cons] at hl;omega) (H9.start _ _ _ _) (fun sv' st'' hc'=>?_);conv=>whnf
  rw [Nat.zero_add] at hc'
  exact hc'
theorem B3D (z:U6) (hl:z.rates.length≤100000) (st:St):S P 189 [S8 z] st fun v st'=>v=S8 z∧st'=st:=by
 have hc:=fun s=>B2b z.rates hl s
 refine A2E ?_
 refine A7 [] C0 mixed Tryz.func189 (by rfl) rfl rfl rfl ?_;conv=>whnf
 intro b1 h1;conv=>whnf
 intro b2 h2
 have h12:b1≠b2:=fun e=>by subst e;rw [A0] at h2;cases h2
 conv=>whnf
 refine E9 (by rw [A9 h12];exact A0 ..) rfl (by omega) rfl ?_;conv=>whnf
 refine B3 (hc _) ?_;conv=>whnf
 refine J7 (by rw [A9 h12];exact A0 ..) rfl (by omega) rfl (by rfl) ?_;conv=>whnf
 refine E9 (A0 ..) rfl (by omega) (A5 ..) ?_;conv=>whnf
 refine J7 (by rw [A9 h12.symm];exact A0 ..) rfl (by omega) rfl (by rfl) ?_;conv=>whnf
 refine E9 (A0 ..) rfl (by omega) (A5 ..) ?_;conv=>whnf
 have hn2:st b2=none:=by rw [A9 h12.symm] at h2;exact h2
 exact ⟨rfl,((((F3.refl st).upd h1).upd h2).over h1).over hn2⟩
theorem C0X (l:List Q0) (hl:Sm l.length) (hs:∀ x∈l,A0J x.scope) (st:St):S P 304 [B1 3 O6 l] st fun v st'=>v=.bool (J1 l (fun _ x=>A0i x)&&(decide ((l.length:Int)≥1)&&decide ((l.length:Int)≤3)))∧st'=st:=by
 refine A7 [] C0 mixed Tryz.func304 (by rfl) rfl rfl rfl ?_;conv=>whnf
 refine lp l.length [0,3] (fun i vs st'=>(∀ k,k<i→A0i (l.getD k default)=true)∧vs=[B1 3 O6 l,eI i]∧st'=st) ?_ ?_
 ·conv=>whnf
  exact ⟨fun k hk=>absurd hk (by omega),rfl,rfl⟩
 ·rintro i vs st' hi ⟨hok,rfl,rfl⟩
  conv=>whnf
  cases h:decide ((i:Int)<(l.length:Int))
  ·obtain rfl:=D7 h hi
   rw [J2 hok,Bool.true_and];conv=>whnf
   refine C4 (fun h=>?_) (fun h=>?_)<;>rw [h]<;>(conv=>whnf)<;>exact ⟨rfl,rfl⟩
  ·have hi':=H0 h
   have yes:A0i (l.getD (i:Int).toNat default)=true→∀ k,k<i+1→A0i (l.getD k default)=true:=fun h=>L9 hok h
   have no:A0i (l.getD (i:Int).toNat default)=false→J1 l (fun _ x=>A0i x)=false:=fun h=>T3 (p:=fun _ x=>A0i x) hi' h
   have n1:=B4z (l.getD (i:Int).toNat default).scope (hs _ (B5 hi')) st'
   rw [show A0i (l.getD (i:Int).toNat default)=(Y3 (l.getD (i:Int).toNat default).scope&&!(decide ((l.getD (i:Int).toNat default).count<1)||decide ((l.getD (i:Int).toNat default).count>100))) from rfl] at yes no
   generalize Y3 (l.getD (i:Int).toNat default).scope=b1 at n1 yes no
   repeat' ((conv=>whnf);first | refine ⟨rfl,⟨by omega,by omega⟩,?_⟩ | refine B3 n1 ?_ | cases b1 | (refine C4 (fun h=>?_) (fun h=>?_)<;>rw [h]))
   all_goals (conv=>whnf)
   all_goals first
    | (rw [no (by simp only [*,Bool.true_or,Bool.or_true,Bool.not_true,Bool.and_false,Bool.false_and])];exact ⟨rfl,rfl⟩)
    | (refine ⟨rfl,?_⟩;conv=>whnf
       exact nx hi' ⟨yes (by simp only [*,Bool.or_false,Bool.not_false,Bool.and_true]),by rw [C2 (by omega)],rfl⟩)
theorem B4B (l:List Int) (hl:Sm l.length) (st:St):S P 159 [B6 l] st fun v st'=>v=.bool (A0r l)∧st'=st:=by
 refine A7 [] C0 mixed Tryz.func159 (by rfl) rfl rfl rfl ?_;conv=>whnf
 refine lp l.length [0,3] (fun i vs st'=>(∀ k,k<i→A1F l k (l.getD k default)=true)∧vs=[B6 l,eI i]∧st'=st) ?_ ?_
 ·conv=>whnf
  exact ⟨fun k hk=>absurd hk (by omega),rfl,rfl⟩
 ·rintro i vs st' hi ⟨hok,rfl,rfl⟩
  conv=>whnf
  cases h:decide ((i:Int)<(l.length:Int))
  ·obtain rfl:=D7 h hi
   conv=>whnf
   exact ⟨by rw [show A0r l=true from J2 hok];rfl,rfl⟩
  ·have hi':=H0 h
   have yes:A1F l i (l.getD (i:Int).toNat default)=true→∀ k,k<i+1→A1F l k (l.getD k default)=true:=fun h=>L9 hok h
   have no:A1F l i (l.getD (i:Int).toNat default)=false→A0r l=false:=fun h=>T3 hi' h
   rw [show A1F l i (l.getD (i:Int).toNat default)=!(!(decide ((l.getD (i:Int).toNat default)≥1)&&decide ((l.getD (i:Int).toNat default)≤9))||(l.take i).any fun y=>l.getD (i:Int).toNat default==y) from rfl] at yes no
   have no':(decide ((l.getD (i:Int).toNat default)≥1)&&decide ((l.getD (i:Int).toNat default)≤9))=false→A0r l=false:=fun h=>no (by rw [h];rfl)
   repeat' ((conv=>whnf);first | refine ⟨rfl,⟨by omega,by omega⟩,?_⟩ | (refine C4 (fun h=>?_) (fun h=>?_)<;>rw [h]))
   all_goals (conv=>whnf)
   ·rw [no' (by rw [Bool.and_eq_false_iff,decide_eq_false_iff_not,decide_eq_false_iff_not];simp only [decide_eq_true_eq,decide_eq_false_iff_not] at *;omega)];exact ⟨rfl,rfl⟩
   ·rw [no' (by rw [Bool.and_eq_false_iff,decide_eq_false_iff_not,decide_eq_false_iff_not];simp only [decide_eq_true_eq,decide_eq_false_iff_not] at *;omega)];exact ⟨rfl,rfl⟩
   have hk:(decide ((l.getD (i:Int).toNat default)≥1)&&decide ((l.getD (i:Int).toNat default)≤9))=true:=by rw [Bool.and_eq_true,decide_eq_true_eq,decide_eq_true_eq];simp only [decide_eq_true_eq,decide_eq_false_iff_not] at *;omega
   rw [hk] at yes no
   refine lp i [0,3,4] (fun j vs s=>(∀ k,k<j→(l.getD k default==l.getD i default)=false)∧vs=[B6 l,eI i,eI j]∧s=st') ?_ ?_
   ·conv=>whnf
    exact ⟨fun k hk=>absurd hk (by omega),rfl,rfl⟩
   ·rintro j vs s hj ⟨hokj,rfl,rfl⟩
    conv=>whnf
    cases h:decide ((j:Int)<(i:Int))
    ·obtain rfl:=D7 h hj
     conv=>whnf
     refine ⟨rfl,?_⟩;conv=>whnf
     refine nx hi' ⟨yes ?_,by rw [C2 (by omega)],rfl⟩
     rw [List.any_eq_false.2 fun x hx=>?_];rfl
     obtain ⟨k,hk2,rfl⟩:=F2 hx
     rw [List.length_take] at hk2
     have h4:=hokj k (by omega)
     rw [Int.toNat_natCast,show (l.take j).getD k default=l.getD k default by rw [List.getD_eq_getElem?_getD,List.getD_eq_getElem?_getD,List.getElem?_take_of_lt (by omega)],Bool.beq_comm,h4];simp
    ·have hj':=H0 h
     conv=>whnf
     refine ⟨[],[],List.range 9,by kernel_rfl,?_⟩;conv=>whnf
     refine ⟨rfl,⟨by omega,by omega⟩,?_⟩;conv=>whnf
     refine ⟨rfl,⟨by omega,by omega⟩,?_⟩;conv=>whnf
     refine C4 (fun h1=>?_) (fun h1=>?_)<;>rw [h1]
     ·conv=>whnf
      refine ⟨?_,rfl⟩
      rw [no ?_];rfl
      rw [List.any_eq_true.2 ⟨l.getD j default,?_,?_⟩];rfl
      ·rw [List.mem_take_iff_getElem]
       exact ⟨j,by omega,by simp [show j<l.length by omega]⟩
      ·rw [Bool.beq_comm];exact h1
     ·conv=>whnf
      refine ⟨rfl,?_⟩;conv=>whnf
      exact nx hj' ⟨L9 hokj h1,by rw [C2 (by omega)],rfl⟩
end Go.Proofs.YtbajhapmlfbelaaGreat
