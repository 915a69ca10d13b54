/- Part 23 of the proof: contracts of the functions that the law reaches -/
import Derived.Test.YthdimklenlikgaaGreatDw22
set_option maxRecDepth 100000
set_option linter.unusedVariables false
set_option linter.unusedSimpArgs false
namespace Go.Proofs.YthdimklenlikgaaGreat
open Go Go.Ab
attribute [local irreducible] upd del
def B5z (n:Int):D7:=(⟨#[103]⟩:D7)++V0 (48+C1 n 2)
def W0 (k:Int):D7:=(⟨#[122]⟩:D7)++V0 (48+k)
def V9 (x:A1b):A1b:=⟨N9 x.scope,1+C1 x.count 2⟩
def N1 (l:List A1b):List A1b:=if l.length=0 then [⟨⟨[],[]⟩,2⟩] else (l.take 3).map V9
def A2w (p:B1):Int:=1+C1 (IntKind.i64.wrap (p.kind - 1)) 7
def A1l (p:B1):D7:=if C1 (A2M p.group) 3=1 then B5z p.group.size else ⟨#[]⟩
def A2v (p:B1):D7:=if C1 (A2M p.code) 3=1 then A4e p.code.size else ⟨#[]⟩
def A2h (p:B1):Int:=if C1 p.least 3=1 then C1 p.least 9000 else 0
def L9 (p:B1) (id K:Int):B1 :=
 ⟨idN id,K,C1 p.prio 5,A1l p,A2v p,if K=7 then false else p.closes,if K=4∨K=7 then ⟨[],[]⟩ else N9 p.scope,A2h p,
 if K=1∨K=3∨K=7 then 1+C1 p.rate 10000 else 0,if K=2 then 1+C1 p.amount 900 else if K=4 then C1 p.amount 3000 else 0,
 if K=3 then 1+C1 p.buy 3 else 0,if K=3 then 1+C1 p.get 2 else 0,if K=4 then N1 p.parts else [],if K=5 then N2 p.tiers 5000 else if K=6 then N2 p.tiers 5 else []⟩
def A1m (p:B1) (id:Int):B1:=L9 p id (A2w p)
def B7T (i:Nat):Int:=((i:Int) * 7+3) % 10
def U1 (l:List B1) (i:Nat):B1:=A1m (l.getD i default) (B7T i)
def J7 (l:List B1):List B1:=(List.range (min l.length 6)).map (U1 l)
def A7g (l:List G6) (c:Nat):G6:=⟨A4q c,C1 (l.getD c default).rate 3000⟩
def Q0 (l:List G6):List G6:=(List.range (min 3 l.length)).map (A7g l)
def E7 (l:List U3) (k:Nat):U3 :=
 if k<l.length then ⟨W0 k,Q0 (l.getD k default).rates,C1 (l.getD k default).rest 3000,C1 (l.getD k default).ship 3000⟩ else ⟨W0 k,[],1000 * k,500 * k⟩
def J9 (t:Tax):Tax:=⟨t.incl,t.byOrder,C1 t.round 3,(List.range 3).map (E7 t.zones)⟩
def A9Q (s:Ab.Ship):Ab.Ship:=⟨C1 s.fee 900,C1 s.free 3 * 4000⟩
def A6o (p:A4y):A4y:=⟨20+C1 p.window 60,C1 p.grace 40,1+C1 p.mode 3,C1 p.restock 3 * C1 p.restock 2500,J5 p.order,J5 p.credit⟩
def W5 (r:E8):E8:=⟨N0 r.items,J7 r.promos,J9 r.tax,A9Q r.ship,A6o r.policy⟩
theorem C5h (n:Int):C1 n 2=0∨C1 n 2=1:=by
 have:=E1 n (n:=2) (by decide);omega
theorem C3o (n:Int):C1 n 3=0∨C1 n 3=1∨C1 n 3=2:=by
 have:=E1 n (n:=3) (by decide);omega
theorem C4a (n:Int):C1 n 10=0∨C1 n 10=1∨C1 n 10=2∨C1 n 10=3∨C1 n 10=4∨C1 n 10=5∨C1 n 10=6∨C1 n 10=7∨C1 n 10=8∨C1 n 10=9:=by
 have:=E1 n (n:=10) (by decide);omega
theorem le3 {n:Nat} (h:n≤3):n=0∨n=1∨n=2∨n=3:=by omega
theorem lt3 {n:Nat} (h:n<3):n=0∨n=1∨n=2:=by omega
theorem X8 {s:D7} (h:F1 s=true):s.size≤12:=by
 unfold F1 at h
 simp only [Bool.and_eq_true,decide_eq_true_eq] at h
 exact h.1.2
theorem B1E (n:Int):F1 (A0C n)=true:=by
 unfold A0C
 rcases C5g n with h | h | h | h | h | h | h | h<;>rw [h]<;>kernel_rfl
theorem A5t (n:Int):F1 (A4q n)=true:=by
 unfold A4q
 rcases C3o n with h | h | h<;>rw [h]<;>kernel_rfl
theorem A9l (n:Int):F1 (A4e n)=true:=by
 unfold A4e
 rcases C3o n with h | h | h<;>rw [h]<;>kernel_rfl
theorem A8h (n:Int):F1 (B5z n)=true:=by
 unfold B5z
 rcases C5h n with h | h<;>rw [h]<;>kernel_rfl
theorem B3M (n:Int):F1 (idN n)=true:=by
 unfold idN
 rcases C4a n with h | h | h | h | h | h | h | h | h | h<;>rw [h]<;>kernel_rfl
theorem B1s:A1I ⟨#[]⟩=true:=by kernel_rfl
theorem B3W {s:D7} (h:F1 s=true):A1I s=true:=by unfold A1I;rw [h,Bool.or_true]
theorem A8i (p:B1):A1I (A1l p)=true∧(A1l p).size≤12:=by
 unfold A1l;split
 ·exact ⟨B3W (A8h _),X8 (A8h _)⟩
 ·exact ⟨B1s,by decide⟩
theorem A9m (p:B1):A1I (A2v p)=true∧(A2v p).size≤12:=by
 unfold A2v;split
 ·exact ⟨B3W (A9l _),X8 (A9l _)⟩
 ·exact ⟨B1s,by decide⟩
theorem B9U (p:B1):0≤A2h p∧A2h p<9000:=by
 have:=E1 p.least (n:=9000) (by decide)
 unfold A2h;split<;>omega
theorem A4I:A0o ⟨[],[]⟩=true∧A1q ⟨[],[]⟩:=⟨by kernel_rfl,⟨by decide,by decide,fun x hx=>(by cases hx),fun x hx=>(by cases hx)⟩⟩
theorem A3T (l:List A1b):(1≤(N1 l).length∧(N1 l).length≤3)∧∀ x∈N1 l,A0e x=true∧A1q x.scope:=by
 unfold N1
 split
 ·refine ⟨⟨Nat.le_refl _,by show 1≤3;decide⟩,fun x hx=>?_⟩
  rw [List.mem_singleton.1 hx]
  exact ⟨by kernel_rfl,A4I.2⟩
 ·rename_i h
  refine ⟨by rw [List.length_map,List.length_take];omega,fun x hx=>?_⟩
  obtain ⟨y,_,rfl⟩:=List.mem_map.1 hx
  obtain ⟨h1,h2⟩:=A1W y.scope
  have:=E1 y.count (n:=2) (by decide)
  refine ⟨?_,h2⟩
  unfold A0e
  rw [show (V9 y).scope=N9 y.scope from rfl,h1,show (V9 y).count=1+C1 y.count 2 from rfl,decide_eq_false (by omega),decide_eq_false (by omega)];rfl
theorem B0s (l:List Y6) (step:Int) (i k:Nat) (hk:k<i):(O1 l step i).1.getD k default=A9R (l.getD k default) ((O1 l step k).2+C1 (l.getD k default).least step):=by
 induction i with
 | zero=>omega
 | succ i ih =>
  have hl:=A6w l step i
  show ((O1 l step i).1++[_]).getD k default=_
  by_cases e:k=i
  ·subst e
   rw [List.getD_eq_getElem?_getD,List.getElem?_append_right (by omega),hl,Nat.sub_self];rfl
  ·rw [List.getD_eq_getElem?_getD,List.getElem?_append_left (by omega),←List.getD_eq_getElem?_getD]
   exact ih (by omega)
theorem A1X (l:List Y6) (step:Int) (h:step=5000∨step=5):U9 (N2 l step)=true∧(N2 l step).length≤3:=by
 unfold N2
 split
 ·rcases h with rfl | rfl
  ·exact ⟨by kernel_rfl,by show 1≤3;decide⟩
  ·exact ⟨by kernel_rfl,by show 1≤3;decide⟩
 ·rename_i h0
  have hs:0<step∧step≤5000:=by omega
  have hl:=A6w l step (min l.length 3)
  refine ⟨?_,by omega⟩
  unfold U9
  rw [hl,decide_eq_false (by omega),decide_eq_false (by omega)]
  show I6 _ _=true
  refine J1 fun k hk=>?_
  rw [hl] at hk
  have hg:=B0s l step (min l.length 3) k hk
  have hm:=E1 (l.getD k default).least hs.1
  have hr:=E1 (l.getD k default).rate (n:=4000) (by decide)
  have ha:=E1 (l.getD k default).amount (n:=300) (by decide)
  have hlo:=A7t l hs.1 k
  have hip:(k:Int) * step≤3 * 5000:=Int.mul_le_mul (by omega) hs.2 (by omega) (by omega)
  unfold A3c
  rw [hg]
  have hprev:(if k=0 then -1 else ((O1 l step (min l.length 3)).1.getD (k - 1) default).least)<(O1 l step k).2+C1 (l.getD k default).least step:=by
   by_cases e:k=0
   ·rw [if_pos e];omega
   ·rw [if_neg e,B0s l step (min l.length 3) (k - 1) (by omega)]
    obtain ⟨j,rfl⟩:∃ j,k=j+1:=⟨k - 1,by omega⟩
    rw [Nat.add_sub_cancel]
    show (O1 l step j).2+C1 (l.getD j default).least step<(O1 l step j).2+C1 (l.getD j default).least step+1+C1 (l.getD (j+1) default).least step
    omega
  show (!(decide ((O1 l step k).2+C1 (l.getD k default).least step≤_)||decide ((O1 l step k).2+C1 (l.getD k default).least step>10000000000000)||decide (C1 (l.getD k default).rate 4000<0)||decide (C1 (l.getD k default).rate 4000>10000)||decide (1+C1 (l.getD k default).amount 300<0)||decide (1+C1 (l.getD k default).amount 300>10000000000000)||(C1 (l.getD k default).rate 4000==0&&1+C1 (l.getD k default).amount 300==0)))=true
  rw [decide_eq_false (by omega),decide_eq_false (by omega),decide_eq_false (by omega),decide_eq_false (by omega),decide_eq_false (by omega),decide_eq_false (by omega),show (1+C1 (l.getD k default).amount 300==0)=false from by rw [beq_eq_false_iff_ne];omega,Bool.and_false];rfl
theorem B7W (l:List Int) (n:Nat):(∀ x∈O5 l n,1≤x∧x≤5)∧(O5 l n).Nodup:=by
 induction n with
 | zero=>exact ⟨fun x hx=>absurd hx List.not_mem_nil,List.nodup_nil⟩
 | succ n ih =>
  rw [A4N];unfold A4M
  split
  ·exact ih
  ·rename_i h
   have hm:=E1 (gI l n) (n:=5) (by decide)
   have hno:1+C1 (gI l n) 5∉O5 l n:=fun hx=>h (List.any_eq_true.2 ⟨_,hx,beq_self_eq_true _⟩)
   refine ⟨fun x hx=>?_,List.nodup_append.2 ⟨ih.2,List.nodup_cons.2 ⟨List.not_mem_nil,List.nodup_nil⟩,fun a ha b hb=>?_⟩⟩
   ·rcases List.mem_append.1 hx with h' | h'
    ·exact ih.1 x h'
    ·rw [List.mem_singleton.1 h'];omega
   ·rw [List.mem_singleton.1 hb];intro e;exact hno (e▸ha)
theorem B3R {l:List Int} (h1:∀ x∈l,1≤x∧x≤5) (h2:l.Nodup):A1j l=true:=by
 refine J1 fun k hk=>?_
 have hx:=h1 _ (B4 hk)
 unfold A1H
 rw [show R7 1 9 (l.getD k default)=true from L1.2 (by omega)]
 have:((l.take k).any fun y=>l.getD k default==y)=false:=by
  rw [List.any_eq_false]
  intro y hy
  obtain ⟨j,hj,rfl⟩:=List.getElem_of_mem hy
  rw [List.length_take] at hj
  rw [beq_iff_eq,List.getD_eq_getElem?_getD,List.getElem?_eq_getElem hk,Option.getD_some,List.getElem_take]
  intro e
  have:=(List.nodup_iff_pairwise_ne.1 h2)
  exact absurd e.symm (List.pairwise_iff_getElem.1 this j k (by omega) hk (by omega))
 rw [this];rfl
theorem R4 (l:List Int):A1j (J5 l)=true∧(J5 l).length≤6:=by
 have h:=B7W l (min l.length 6)
 have:=A9v l (min l.length 6)
 exact ⟨B3R h.1 h.2,by show (O5 l _).length≤6;omega⟩
theorem A1n (q:B1) (h1:1≤q.kind∧q.kind<8) (hh:A5V q=true) (hp:A4R q=true) (hk:A4Q q=true):H4 q=true:=by
 unfold H4;rw [decide_eq_true (show q.kind≥1 from h1.1),decide_eq_true h1.2,hh,hp,hk];rfl
theorem A2u (q:B1) (h1:F1 q.id=true) (h2:0≤q.prio∧q.prio≤1000) (h3:A1I q.group=true) (h4:A1I q.code=true) (h5:A0o q.scope=true) (h6:0≤q.least∧q.least≤10000000000000):A5V q=true:=by
 unfold A5V;rw [h1,L1.2 h2,h3,h4,h5,L1.2 h6];rfl
theorem A4X (p:B1):1≤A2w p∧A2w p≤7:=by
 have:=E1 (IntKind.i64.wrap (p.kind - 1)) (n:=7) (by decide)
 unfold A2w;omega
theorem A7S (p:B1) (id K:Int) (hK:1≤K∧K≤7):H4 (L9 p id K)=true:=by
 have h1:=B3M id
 have h2:=E1 p.prio (n:=5) (by decide)
 have h3:=(A8i p).1
 have h4:=(A9m p).1
 have h5:=(A1W p.scope).1
 have h6:=B9U p
 have r:=E1 p.rate (n:=10000) (by decide)
 have a9:=E1 p.amount (n:=900) (by decide)
 have a3:=E1 p.amount (n:=3000) (by decide)
 have b3:=E1 p.buy (n:=3) (by decide)
 have g2:=E1 p.get (n:=2) (by decide)
 have hpt:=A3T p.parts
 have ht5:=(A1X p.tiers 5000 (.inl rfl)).1
 have ht6:=(A1X p.tiers 5 (.inr rfl)).1
 unfold L9
 generalize idN id=I at h1 ⊢
 generalize C1 p.prio 5=pr at h2 ⊢
 generalize A1l p=G at h3 ⊢
 generalize A2v p=C at h4 ⊢
 generalize N9 p.scope=S at h5 ⊢
 generalize A2h p=L at h6 ⊢
 generalize C1 p.rate 10000=R at r ⊢
 generalize C1 p.amount 900=A at a9 ⊢
 generalize C1 p.amount 3000=A3 at a3 ⊢
 generalize C1 p.buy 3=B at b3 ⊢
 generalize C1 p.get 2=Gt at g2 ⊢
 generalize N1 p.parts=PT at hpt ⊢
 generalize N2 p.tiers 5000=T5 at ht5 ⊢
 generalize N2 p.tiers 5=T6 at ht6 ⊢
 generalize p.closes=cl
 rcases (by omega:K=1∨K=2∨K=3∨K=4∨K=5∨K=6∨K=7) with rfl | rfl | rfl | rfl | rfl | rfl | rfl
 ·exact A1n ⟨I,1,pr,G,C,cl,S,L,1+R,0,0,0,[],[]⟩ ⟨(by decide:(1:Int)≤1),(by decide:(1:Int)<8)⟩ (A2u _ h1 ⟨h2.1,by show pr≤1000;omega⟩ h3 h4 h5 ⟨h6.1,by show L≤_;omega⟩) rfl (show R7 1 10000 (1+R)=true from L1.2 (by omega))
 ·exact A1n ⟨I,2,pr,G,C,cl,S,L,0,1+A,0,0,[],[]⟩ ⟨(by decide:(1:Int)≤2),(by decide:(2:Int)<8)⟩ (A2u _ h1 ⟨h2.1,by show pr≤1000;omega⟩ h3 h4 h5 ⟨h6.1,by show L≤_;omega⟩) rfl (show R7 1 1000000000 (1+A)=true from L1.2 (by omega))
 ·refine A1n ⟨I,3,pr,G,C,cl,S,L,1+R,0,1+B,1+Gt,[],[]⟩ ⟨(by decide:(1:Int)≤3),(by decide:(3:Int)<8)⟩ (A2u _ h1 ⟨h2.1,by show pr≤1000;omega⟩ h3 h4 h5 ⟨h6.1,by show L≤_;omega⟩) rfl ?_
  show (R7 1 10000 (1+R)&&(R7 1 100 (1+B)&&R7 1 100 (1+Gt)))=true
  rw [L1.2 (show 1≤1+R∧1+R≤10000 by omega),L1.2 (show 1≤1+B∧1+B≤100 by omega),L1.2 (show 1≤1+Gt∧1+Gt≤100 by omega)];rfl
 ·refine A1n ⟨I,4,pr,G,C,cl,⟨[],[]⟩,L,0,A3,0,0,PT,[]⟩ ⟨(by decide:(1:Int)≤4),(by decide:(4:Int)<8)⟩ (A2u _ h1 ⟨h2.1,by show pr≤1000;omega⟩ h3 h4 A4I.1 ⟨h6.1,by show L≤_;omega⟩) rfl ?_
  show (!(decide ((PT.length:Int)<1)||decide ((PT.length:Int)>3)||decide (A3<0)||decide (A3>10000000000000))&&!(PT.any fun x=>!A0e x))=true
  rw [decide_eq_false (by omega),decide_eq_false (by omega),decide_eq_false (by omega),decide_eq_false (by omega),show (PT.any fun x=>!A0e x)=false from by
   rw [List.any_eq_false];intro x hx;rw [(hpt.2 x hx).1];simp];rfl
 ·exact A1n ⟨I,5,pr,G,C,cl,S,L,0,0,0,0,[],T5⟩ ⟨(by decide:(1:Int)≤5),(by decide:(5:Int)<8)⟩ (A2u _ h1 ⟨h2.1,by show pr≤1000;omega⟩ h3 h4 h5 ⟨h6.1,by show L≤_;omega⟩) rfl ht5
 ·exact A1n ⟨I,6,pr,G,C,cl,S,L,0,0,0,0,[],T6⟩ ⟨(by decide:(1:Int)≤6),(by decide:(6:Int)<8)⟩ (A2u _ h1 ⟨h2.1,by show pr≤1000;omega⟩ h3 h4 h5 ⟨h6.1,by show L≤_;omega⟩) rfl ht6
 ·exact A1n ⟨I,7,pr,G,C,false,⟨[],[]⟩,L,1+R,0,0,0,[],[]⟩ ⟨(by decide:(1:Int)≤7),(by decide:(7:Int)<8)⟩ (A2u _ h1 ⟨h2.1,by show pr≤1000;omega⟩ h3 h4 A4I.1 ⟨h6.1,by show L≤_;omega⟩) rfl (show R7 1 10000 (1+R)=true from L1.2 (by omega))
theorem A1q.fit {s:O4} (h:A1q s):A6E s:=⟨by have:=h.n1;show _≤9223372036854775807;omega,by have:=h.n2;show _≤9223372036854775807;omega⟩
theorem A9P (p:B1) (id K:Int):O3 (L9 p id K):=by
 have hs:=(A1W p.scope).2
 have hp:=A3T p.parts
 refine ⟨?_,?_,?_⟩
 ·show A6E (if K=4∨K=7 then ⟨[],[]⟩ else N9 p.scope)
  split
  ·exact A4I.2.fit
  ·exact hs.fit
 ·show (if K=4 then N1 p.parts else []).length≤9223372036854775807
  split
  ·omega
  ·exact Nat.zero_le _
 ·show ∀ x∈(if K=4 then N1 p.parts else []),_
  split
  ·exact fun x hx=>⟨(hp.2 x hx).2.fit.skus,(hp.2 x hx).2.fit.cats⟩
  ·exact fun x hx=>absurd hx List.not_mem_nil
theorem A0R (l:List B1):(J7 l).length=min l.length 6:=by unfold J7;rw [List.length_map,List.length_range]
theorem A4Y {l:List B1} {k:Nat} (hk:k<(J7 l).length):(J7 l).getD k default=U1 l k:=by
 rw [A0R] at hk
 unfold J7
 rw [List.getD_eq_getElem?_getD,List.getElem?_map,List.getElem?_range hk];rfl
theorem A4Z {l:List B1} {p:B1} (h:p∈J7 l):∃ (q:B1) (id K:Int),(1≤K∧K≤7)∧p=L9 q id K:=by
 obtain ⟨k,hk,rfl⟩:=List.mem_map.1 h
 exact ⟨_,_,_,A4X _,rfl⟩
theorem B5B:((List.range 6).all fun j=>(List.range j).all fun i=>!((idN (B7T i)).toList==(idN (B7T j)).toList))=true:=by kernel_rfl
theorem A7T (l:List B1):promosC (J7 l)=true:=by
 have hl:=A0R l
 unfold promosC
 rw [decide_eq_true (by omega),Bool.true_and]
 refine J1 fun k hk=>?_
 unfold A0S
 rw [A4Y hk,show H4 (U1 l k)=true from A7S _ _ _ (A4X _),Bool.true_and,Bool.not_eq_true',List.any_eq_false]
 intro x hx
 obtain ⟨j,hj,rfl⟩:=F4 hx
 rw [List.length_take] at hj
 rw [show ((J7 l).take k).getD j default=U1 l j by rw [List.getD_eq_getElem?_getD,List.getElem?_take_of_lt (by omega),←List.getD_eq_getElem?_getD,A4Y (by omega)]]
 have:=List.all_eq_true.1 (List.all_eq_true.1 B5B k (List.mem_range.2 (by omega))) j (List.mem_range.2 (by omega))
 rw [Bool.not_eq_true'] at this
 show ¬((idN (B7T j)).toList==(idN (B7T k)).toList)=true
 rw [this];simp
theorem B7D (n:Nat) (h:n≤3):Y1 ((List.range n).map fun c:Nat=>A4q c)=true:=by
 rcases le3 h with rfl | rfl | rfl | rfl<;>kernel_rfl
theorem A7h (l:List G6):(Q0 l).length≤3∧(∀ x∈Q0 l,A4j x=true∧x.cat.size≤12)∧Y1 ((Q0 l).map G6.cat)=true:=by
 unfold Q0
 refine ⟨by rw [List.length_map,List.length_range];omega,fun x hx=>?_,?_⟩
 ·obtain ⟨c,_,rfl⟩:=List.mem_map.1 hx
  have:=E1 (l.getD c default).rate (n:=3000) (by decide)
  refine ⟨?_,X8 (A5t _)⟩
  unfold A4j
  rw [show (A7g l c).cat=A4q c from rfl,A5t,show R7 0 10000 (A7g l c).rate=true from L1.2 ⟨this.1,by show C1 _ 3000≤_;omega⟩];rfl
 ·rw [List.map_map]
  exact B7D _ (by omega)
theorem B0C:((List.range 3).all fun k:Nat=>F1 (W0 k))=true:=by kernel_rfl
theorem B4l (l:List U3) (k:Nat) (hk:k<3):Z2 (E7 l k)=true:=by
 have hn:=List.all_eq_true.1 B0C k (List.mem_range.2 hk)
 have hz:=X8 hn
 unfold E7
 split
 ·obtain ⟨h1,h2,h3⟩:=A7h (l.getD k default).rates
  have m1:=E1 (l.getD k default).rest (n:=3000) (by decide)
  have m2:=E1 (l.getD k default).ship (n:=3000) (by decide)
  generalize Q0 (l.getD k default).rates=R at h1 h2 h3 ⊢
  unfold Z2
  show (!(!F1 (W0 k)||!R7 0 10000 (C1 _ 3000)||!R7 0 10000 (C1 _ 3000)||decide ((R.length:Int)>40))&&(I6 R (fun _ x=>A4j x)&&Y1 (R.map G6.cat)))=true
  rw [hn,L1.2 (show 0≤C1 (l.getD k default).rest 3000∧_≤10000 by omega),L1.2 (show 0≤C1 (l.getD k default).ship 3000∧_≤10000 by omega),decide_eq_false (by omega),h3,show I6 R (fun _ x=>A4j x)=true from J1 fun j hj=>(h2 _ (B4 hj)).1];rfl
 ·rcases lt3 hk with rfl | rfl | rfl
  ·exact (by kernel_rfl:Z2 ⟨W0 (0:Nat),[],1000 * ((0:Nat):Int),500 * ((0:Nat):Int)⟩=true)
  ·exact (by kernel_rfl:Z2 ⟨W0 (1:Nat),[],1000 * ((1:Nat):Int),500 * ((1:Nat):Int)⟩=true)
  ·exact (by kernel_rfl:Z2 ⟨W0 (2:Nat),[],1000 * ((2:Nat):Int),500 * ((2:Nat):Int)⟩=true)
theorem B8V (l:List U3):(((List.range 3).map (E7 l)).map U3.name)=[W0 0,W0 1,W0 2]:=by
 have e:∀ k,(E7 l k).name=W0 k:=fun k=>by unfold E7;split<;>rfl
 show [(E7 l 0).name,(E7 l 1).name,(E7 l 2).name]=_
 rw [e,e,e];rfl
theorem B5N (t:Tax):A7s (J9 t)=true:=by
 have hr:=E1 t.round (n:=3) (by decide)
 have hz:∀ z∈(J9 t).zones,Z2 z=true:=fun z hz=>by
  obtain ⟨k,hk,rfl⟩:=List.mem_map.1 hz
  exact B4l _ k (List.mem_range.1 hk)
 have hn:(J9 t).zones.length=3:=by show ((List.range 3).map _).length=3;rw [List.length_map,List.length_range]
 unfold A7s
 rw [show (J9 t).round=C1 t.round 3 from rfl,hn,decide_eq_false (show ¬ C1 t.round 3<0 by omega),decide_eq_false (show ¬ C1 t.round 3>2 by omega),show (J9 t).zones.map U3.name=[W0 0,W0 1,W0 2] from B8V _,
  show Y1 [W0 0,W0 1,W0 2]=true by kernel_rfl,show I6 (J9 t).zones (fun _ z=>Z2 z)=true from J1 fun j hj=>hz _ (B4 hj)];rfl
theorem B4f (l:List Ab.Item) (k:Nat):A3n (N7 l k)=true∧(N7 l k).sku.size≤12∧(N7 l k).cat.size≤12∨8≤k:=by
 by_cases h8:8≤k
 ·exact .inr h8
 refine .inl ?_
 have e:∀ (c:D7) (pr:Int) (f:Bool),F1 c=true→0≤pr∧pr≤1000000000→A3n ⟨A0C k,c,pr,f⟩=true∧(A0C k).size≤12∧c.size≤12:=fun c pr f hc hp=>by
  refine ⟨?_,X8 (B1E _),X8 hc⟩
  unfold A3n
  rw [show F1 (Ab.Item.mk (A0C k) c pr f).sku=true from B1E _,show F1 (Ab.Item.mk (A0C k) c pr f).cat=true from hc,decide_eq_false (show ¬(Ab.Item.mk (A0C k) c pr f).price<0 from by show ¬ pr<0;omega),decide_eq_false (show ¬(Ab.Item.mk (A0C k) c pr f).price>1000000000 from by show ¬ pr>_;omega)];rfl
 have hm:=E1 (l.getD k default).price (n:=4000) (by decide)
 unfold N7
 split
 ·exact e _ _ _ (A5t _) (by omega)
 ·exact e _ _ _ (A5t _) (by omega)
theorem A5W {l:List Ab.Item} {x:Ab.Item} (h:x∈N0 l):A3n x=true∧x.sku.size≤12∧x.cat.size≤12:=by
 obtain ⟨k,hk,rfl⟩:=List.mem_map.1 h
 have:=List.mem_range.1 hk
 rcases B4f l k with h | h
 ·exact h
 ·omega
theorem A8E (l:List Ab.Item):A0M (N0 l)=true:=by
 unfold A0M
 rw [A2Y,B1F,show Y1 [V0 97,V0 98,V0 99,V0 100,V0 101,V0 102,V0 103,V0 104]=true by kernel_rfl,show I6 (N0 l) (fun _ x=>A3n x)=true from J1 fun j hj=>(A5W (B4 hj)).1];rfl
theorem A8F (r:E8):O0 (W5 r)=true:=by
 have h1:=E1 r.ship.fee (n:=900) (by decide)
 have h2:=E1 r.ship.free (n:=3) (by decide)
 have h3:=E1 r.policy.window (n:=60) (by decide)
 have h4:=E1 r.policy.grace (n:=40) (by decide)
 have h5:=E1 r.policy.mode (n:=3) (by decide)
 have h6:=E1 r.policy.restock (n:=3) (by decide)
 have h7:=E1 r.policy.restock (n:=2500) (by decide)
 have h8:C1 r.policy.restock 3 * C1 r.policy.restock 2500≤2 * 2499:=Int.mul_le_mul (by omega) (by omega) (by omega) (by omega)
 have h9:0≤C1 r.policy.restock 3 * C1 r.policy.restock 2500:=Int.mul_nonneg h6.1 h7.1
 show (A0M (N0 r.items)&&promosC (J7 r.promos)&&A7s (J9 r.tax)&&A8q (A9Q r.ship)&&A5z (A6o r.policy))=true
 rw [A8E,A7T,B5N r.tax]
 have e1:A8q (A9Q r.ship)=true:=by
  show (R7 0 1000000000 (C1 r.ship.fee 900)&&R7 0 10000000000000 (C1 r.ship.free 3 * 4000))=true
  rw [L1.2 (by omega),L1.2 (by omega)];rfl
 have e2:A5z (A6o r.policy)=true:=by
  show (R7 0 100000 (20+C1 r.policy.window 60)&&R7 0 100000 (C1 r.policy.grace 40)&&decide (1+C1 r.policy.mode 3≥1)&&decide (1+C1 r.policy.mode 3≤3)&&R7 0 10000 (C1 r.policy.restock 3 * C1 r.policy.restock 2500)&&A1j (J5 r.policy.order)&&A1j (J5 r.policy.credit))=true
  rw [L1.2 (by omega),L1.2 (by omega),decide_eq_true (by omega),decide_eq_true (by omega),L1.2 (by omega),(R4 _).1,(R4 _).1];rfl
 rw [e1,e2];rfl
theorem B0N (r:E8):A0a (W5 r):=by
 have h1:=A0R r.promos
 have h2:=(R4 r.policy.order).2
 have h3:=(R4 r.policy.credit).2
 refine ⟨by show (J7 r.promos).length≤9223372036854775807;omega,fun p hp=>?_,by show (J5 r.policy.order).length<_;omega,by show (J5 r.policy.credit).length<_;omega⟩
 obtain ⟨q,id,K,_,rfl⟩:=A4Z hp
 exact A9P q id K
abbrev A6h (l:List G6):Nat→AV:=fun i=>A0J (l.getD i default)
def A1G (zs:Nat→List G6) (sv:Nat→AV):Nat→St→St→Prop
 | 0=>F2
 | k+1=>fun s t=>ROut (A1G zs sv k) 218 2 (A6h (zs k)) (zs k).length s (sv k) t
theorem A1w (zs:Nat→List G6) (sv:Nat→AV):∀ k,G7 (A1G zs sv k)
 | 0=>C5
 | k+1=>M9 (A1w zs sv k) _ _ _ _ _
theorem A8e {zs zs':Nat→List G6} {sv sv':Nat→AV}:∀ (k:Nat) {s t:St},(∀ j,j<k→zs j=zs' j∧sv j=sv' j)→A1G zs sv k s t→A1G zs' sv' k s t
 | 0,s,t,_,h=>h
 | k+1,s,t,he,h=>by
  obtain ⟨s0,h1,h2⟩:=h
  obtain ⟨e1,e2⟩:=he k (Nat.lt_succ_self k)
  rw [e1,e2] at h1
  exact ⟨s0,h1,A8e k (fun j hj=>he j (Nat.lt_succ_of_lt hj)) h2⟩
theorem A6V {bz n ty:Nat} {zs:Nat→List G6} {sv:Nat→AV} {nm:Nat→D7} {r1 r2:Nat→Int}:∀ (k:Nat) (s t:St) (g:Nat→AV),k≤n→A1G zs sv k s t→s bz=some ⟨ty,4,n,g⟩→(∀ j,j<k→g j=.agg [eS (nm j),sv j,eI (r1 j),eI (r2 j)]) →
  ∃ t' g',(∀ vs,B2 vs t vs t')∧F2 (upd s bz ⟨ty,4,n,g'⟩) t'∧(∀ j,j<k→g' j=.agg [eS (nm j),A7 2 A0J (zs j),eI (r1 j),eI (r2 j)])∧∀ j,k≤j→g' j=g j
 | 0,s,t,g,hk,h,hs,hg=>by
  refine ⟨t,g,fun vs=>B2.refl _ _,fun b x hb=>?_,fun j hj=>absurd hj (by omega),fun j _=>rfl⟩
  by_cases e:b=bz
  ·subst e;rw [A0] at hb;cases hb;exact h _ _ hs
  ·rw [A8 e] at hb;exact h _ _ hb
 | k+1,s,t,g,hk,h,hs,hg=>by
  have hB:=A1w zs sv k
  have ht:t bz=some ⟨ty,4,n,g⟩:=(A1w zs sv (k+1)).sup h _ _ hs
  obtain ⟨t1,hsh,hc⟩:=ROut.shift hB h
  have ht1:t1 bz=some ⟨ty,4,n,g⟩:=hB.sup hc _ _ hs
  have hcell:=fun vs=>B2.cell (vs:=vs) (pre:=[eS (nm k)]) (post:=[eI (r1 k),eI (r2 k)]) hsh ht ht1 (show k<n by omega) (hg k (by omega)) rfl
  have hc':=hB.write (y':=⟨ty,4,n,G5 g k (.agg ([eS (nm k)]++AV.arr 2 (zs k).length (A6h (zs k))::[eI (r1 k),eI (r2 k)]))⟩) hc hs
  obtain ⟨t',g',k1,k2,k3,k4⟩:=A6V (nm:=nm) (r1:=r1) (r2:=r2) k _ _ _ (by omega) hc' (A0 ..) (fun j hj=>by rw [G2 (by omega)];exact hg j (by omega))
  rw [B6] at k2
  refine ⟨t',g',fun vs=>(hcell vs).trans (k1 vs),k2,fun j hj=>?_,fun j hj=>?_⟩
  ·by_cases e:j=k
   ·subst e;rw [k4 j (Nat.le_refl _),A2];rfl
   ·exact k3 j (by omega)
  ·rw [k4 j (by omega),G2 (by omega)]
theorem ROut.putB {R:St→St→Prop} (hR:G7 R) {ty e n b:Nat} {fo:Nat→AV} {s t:St} {sv:AV} {y:Q5} (h:ROut R ty e fo n (upd s b y) sv t) (y':Q5):ROut R ty e fo n (upd s b y') sv (upd t b y'):=by
 have:=ROut.write (y':=y') hR h (A0 ..)
 rwa [B6] at this
theorem C1n (k:Nat) (h:k<3):(⟨#[122]⟩:D7)++B0U ([]++[IntKind.u8.wrap (48+IntKind.u8.wrap (k:Int))])=W0 k:=by rw [B1J];rfl
theorem B4k {l:List U3} {k:Nat} (h:k<l.length):E7 l k=⟨W0 k,Q0 (l.getD k default).rates,C1 (l.getD k default).rest 3000,C1 (l.getD k default).ship 3000⟩:=if_pos h
theorem B2G {l:List U3} {k:Nat} (h:¬ k<l.length):E7 l k=⟨W0 k,[],1000 * k,500 * k⟩:=if_neg h
theorem C2y {l:List G6} {c:Nat} (hc:c<min 3 l.length):(Q0 l).getD c default=A7g l c:=by
 unfold Q0
 rw [List.getD_eq_getElem?_getD,List.getElem?_map,List.getElem?_range hc];rfl
abbrev B0B (z:U3) (rv:AV):AV:=.agg [eS z.name,rv,eI z.rest,eI z.ship]
def ZO (t:Tax) (k:Nat) (base:St) (zv:AV) (s:St):Prop :=
 ∃ (sv g:Nat→AV),ROut (A1G (fun j=>(E7 t.zones j).rates) sv k) 184 4 g k base zv s∧∀ j,j<k→g j=B0B (E7 t.zones j) (sv j)
theorem ZO.end {t:Tax} {base s:St} {zv:AV} (h:ZO t 3 base zv s):∃ t',B2 [zv] s [A7 4 S8 (J9 t).zones] t'∧F2 base t':=by
 obtain ⟨sv,g,⟨s1,hcol,hch⟩,hg⟩:=h
 rcases hcol with ⟨h0,_,_⟩ | ⟨h0,bz,g0,hbz,rfl,rfl,hgg⟩
 ·cases h0
 obtain ⟨t',g',hsh,hsup,hg',_⟩:=A6V (nm:=fun j=>(E7 t.zones j).name) (r1:=fun j=>(E7 t.zones j).rest) (r2:=fun j=>(E7 t.zones j).ship) 3 _ s g0 (Nat.le_refl _) hch (A0 ..) (fun j hj=>by rw [hgg j hj,hg j hj])
 rw [B6] at hsup
 refine ⟨del t' bz,(hsh _).trans (K8 (hsup bz _ (A0 ..)) rfl (Nat.le_refl _) fun i hi=>?_),?_⟩
 ·show g' i=S8 ((J9 t).zones.getD i default)
  rw [hg' i hi]
  have:(J9 t).zones.getD i default=E7 t.zones i:=by
   show ((List.range 3).map (E7 t.zones)).getD i default=_
   rw [List.getD_eq_getElem?_getD,List.getElem?_map,List.getElem?_range hi];rfl
  rw [this];rfl
 ·exact F2.del (((F2.refl base).upd hbz).trans hsup) hbz
theorem ZO.next {t:Tax} {k:Nat} {base s1 s:St} {zv rv:AV} {sv g:Nat→AV} (hcol:H7 184 4 g base k zv s1) (hR:ROut (A1G (fun j=>(E7 t.zones j).rates) sv k) 218 2 (A6h (E7 t.zones k).rates) (E7 t.zones k).rates.length s1 rv s) (hg:∀ j,j<k→g j=B0B (E7 t.zones j) (sv j)) :
  ∃ sv' g',ROut (A1G (fun j=>(E7 t.zones j).rates) sv' (k+1)) 184 4 g' k base zv s∧sv' k=rv∧(∀ j,j<k+1→g' j=B0B (E7 t.zones j) (sv' j)):=by
 have hsv:∀ j,j<k→sv j=(fun j=>if j=k then rv else sv j) j:=fun j hj=>by simp only;rw [if_neg (by omega)]
 refine ⟨fun j=>if j=k then rv else sv j,fun j=>B0B (E7 t.zones j) (if j=k then rv else sv j),⟨s1,H7.congr hcol fun j hj=>by rw [hg j hj];show B0B _ _=B0B _ (if j=k then rv else sv j);rw [if_neg (by omega)],?_⟩,by simp,fun j _=>rfl⟩
 obtain ⟨s2,h1,h2⟩:=hR
 refine ⟨s2,?_,A8e k (fun j hj=>⟨rfl,hsv j hj⟩) h2⟩
 simp only [if_true];exact h1
theorem B4M {R:St→St→Prop} {ty e n b:Nat} {fo:Nat→AV} {base s:St} {zv:AV} {y:Q5} (h:ROut R ty e fo n (upd base b y) zv (upd s b y)) (ty' e':Nat) (fo':Nat→AV):∃ s1,H7 ty e fo (upd base b y) n zv s1∧ROut R ty' e' fo' 0 s1 .emp (upd s b y):=by
 obtain ⟨s1,h1,h2⟩:=h
 exact ⟨s1,h1,ROut.start h2 _ _ _⟩
theorem C2K {R:St→St→Prop} (hR:G7 R) {ty e n b ty' e' m:Nat} {fo fo':Nat→AV} {base s1 t:St} {zv rv:AV} {y:Q5} (h1:H7 ty e fo (upd base b y) n zv s1) (h2:ROut R ty' e' fo' m s1 rv t) (y':Q5) :
  ∃ s1',H7 ty e fo (upd base b y') n zv s1'∧ROut R ty' e' fo' m s1' rv (upd t b y'):=by
 have h3:=H7.write (y':=y') h1 (A0 ..)
 rw [B6] at h3
 exact ⟨_,h3,ROut.write hR h2 (h1.sup b _ (A0 ..))⟩
set_option maxHeartbeats 8000000 in
theorem B8o (x:Tax) (st:St):S P 74 [B0K x] st fun v st'=>v=B0K (J9 x)∧st'=st:=by
 have hE:B0K (J9 x)=.agg [eB x.incl,eB x.byOrder,eI (C1 x.round 3),A7 4 S8 (J9 x).zones]:=rfl
 refine S.post (post:=fun v s=>∃ zv base,v=.agg [eB x.incl,eB x.byOrder,eI (C1 x.round 3),zv]∧B2 [zv] s [A7 4 S8 (J9 x).zones] base∧F2 st base) ?_ (fun v s ⟨zv,base,h1,h2,h3⟩=>⟨_,st,⟨hE.symm,rfl⟩,by
  rw [h1]
  exact (B2.agg (B2.cons (B2.keep [eB x.incl] _) (B2.cons (B2.keep [eB x.byOrder] _) (B2.cons (B2.keep [eI (C1 x.round 3)] _) h2)))).trans (h3.shift _)⟩)
 clear hE
 have hRd:=fun s=>A0u x.round 3 (by decide) (by decide) s
 obtain ⟨RD',hRD'⟩:∃ RD',RD'=C1 x.round 3:=⟨_,rfl⟩
 rw [←hRD'] at hRd ⊢
 have hend:=fun base s zv=>ZO.end (t:=x) (base:=base) (s:=s) (zv:=zv)
 have hnext:=fun k base s1 s zv rv sv g=>ZO.next (t:=x) (k:=k) (base:=base) (s1:=s1) (s:=s) (zv:=zv) (rv:=rv) (sv:=sv) (g:=g)
 generalize A7 4 S8 (J9 x).zones=ZS at hend ⊢
 refine A5 [1] B7 mixed Tryz.func74 (by rfl) rfl rfl rfl ?_;conv=>whnf
 intro b2 hb2;conv=>whnf
 refine ⟨[8,9],[1,3,5,6],List.range 10,by kernel_rfl,?_⟩;conv=>whnf
 refine ⟨_,fun s _=>⟨rfl,rfl⟩,?_⟩;conv=>whnf
 refine ⟨_,fun s _=>⟨rfl,rfl⟩,?_⟩;conv=>whnf
 refine ⟨_,fun s _=>⟨rfl,rfl⟩,?_⟩;conv=>whnf
 refine ⟨_,fun s _=>C9 (hRd s),?_⟩;conv=>whnf
 intro b3 hb3
 have h23:b2≠b3:=fun e=>by subst e;rw [A0] at hb3;cases hb3
 conv=>whnf
 refine K4 (A0 ..) rfl (by omega) rfl (by rfl) ?_
 rw [B6];conv=>whnf
 refine lp 3 [1,2,3,4] (fun k vs s=>∃ zv f,vs=[.fptr (B0K x) 0,.optr 4 b2 0 0,.optr 4 b3 0 0,eI k]∧f 0=.agg [eB x.incl,eB x.byOrder,eI RD',zv]∧ZO x k (upd (upd st b2 ⟨26,4,1,fun _=>K3 r26.zero⟩) b3 ⟨26,4,1,f⟩) zv s) ?_ ?_
 ·conv=>whnf
  exact ⟨.emp,_,rfl,by first | rfl | (rw [A2];rfl),fun _=>.junk,fun _=>.junk,ROut.start (show A1G _ _ 0 _ _ from F2.refl _) _ _ _,fun j hj=>absurd hj (by omega)⟩
 rintro k vs s hk ⟨zv,f,rfl,hf,sv,g,hR,hg⟩
 have hB:=A1w (fun j=>(E7 x.zones j).rates) sv k
 have hsup:=ROut.sup hB hR
 have at3:s b3=some ⟨26,4,1,f⟩:=hsup b3 _ (A0 ..)
 have at2:s b2=some ⟨26,4,1,fun _=>K3 r26.zero⟩:=hsup b2 _ (by rw [A8 h23];exact A0 ..)
 conv=>whnf
 refine C3 (fun h1=>?_) (fun h1=>?_)<;>rw [h1]<;>simp only [decide_eq_true_eq,decide_eq_false_iff_not] at h1
 case refine_2 =>
  obtain rfl:k=3:=by omega
  have hz:=ROut.head hR
  obtain ⟨y2,hy2⟩:∃ y2:Q5,y2=⟨26,4,1,G5 (fun _=>K3 r26.zero) 0 (.agg [eB x.incl,eB x.byOrder,eI RD',zv])⟩:=⟨_,rfl⟩
  obtain ⟨base,k1,k2⟩:=hend _ _ _ ⟨sv,g,ROut.write hB hR (b:=b2) (y':=y2) (by rw [A8 h23];exact A0 ..),hg⟩
  subst hy2
  rcases hz with rfl | ⟨bz,rfl⟩
  all_goals
   conv=>whnf
   refine E9 at3 rfl (by omega) hf ?_;conv=>whnf
   refine K4 at2 rfl (by omega) rfl (by rfl) ?_;conv=>whnf
   refine E9 (A0 ..) rfl (by omega) (A2 ..) ?_;conv=>whnf
   exact ⟨_,base,rfl,k1,((((F2.refl st).upd hb2).upd hb3).over hb2).trans k2⟩
 have hk3:k<3:=by omega
 have hzn:=C1n k hk3
 have w1:IntKind.i64.wrap (1000 * (k:Int))=1000 * k:=A9 (by omega) (by omega)
 have w2:IntKind.i64.wrap (500 * (k:Int))=500 * k:=A9 (by omega) (by omega)
 have hname:∀ j,(E7 x.zones j).name=W0 j:=fun j=>by unfold E7;split<;>rfl
 conv=>whnf
 intro b5 hb5
 have h35:b3≠b5:=fun e=>by subst e;rw [at3] at hb5;cases hb5
 have h25:b2≠b5:=fun e=>by subst e;rw [at2] at hb5;cases hb5
 have hbase5:(upd (upd st b2 ⟨26,4,1,fun _=>K3 r26.zero⟩) b3 ⟨26,4,1,f⟩) b5=none:=hsup.none hb5
 conv=>whnf
 rw [hzn,w1,w2]
 refine K4 (A0 ..) rfl (by omega) rfl (by rfl) ?_
 rw [B6]
 /- the tail: the zone as it then stands is appended -/
 have tail:∀ (s2 s1:St) (rv:AV) (f5:Nat→AV),H7 184 4 g (upd (upd (upd st b2 ⟨26,4,1,fun _=>K3 r26.zero⟩) b3 ⟨26,4,1,f⟩) b5 ⟨184,4,1,f5⟩) k zv s1 →
   ROut (A1G (fun j=>(E7 x.zones j).rates) sv k) 218 2 (A6h (E7 x.zones k).rates) (E7 x.zones k).rates.length s1 rv s2 →
   ∀ (X:AV) (gg:Nat→AV),Y3 4 s2 X=some (1,gg)→gg 0=B0B (E7 x.zones k) rv →
   ∀ (K:KK),(∀ zv' t2,t2 b3=some ⟨26,4,1,f⟩→(zv'=.emp∨∃ b,zv'=.own 4 b 0 (k+1))→(∀ f',ZO x (k+1) (upd (upd st b2 ⟨26,4,1,fun _=>K3 r26.zero⟩) b3 ⟨26,4,1,f'⟩) zv' (upd t2 b3 ⟨26,4,1,f'⟩))→K zv' t2) →
   A5j T 24 zv X s2 K:=by
  intro s2 s1 rv f5 hcol hrt X gg hs hgg K hK
  obtain ⟨sv',g',q1,q2,q3⟩:=hnext _ _ _ _ _ _ _ _ hcol hrt hg
  have hB':=A1w (fun j=>(E7 x.zones j).rates) sv' (k+1)
  refine ROut.app (q:=C0o) (f:=g') hB' rfl rfl rfl rfl hs (by rw [q3 k (Nat.lt_succ_self k),q2,hgg]) (by show (k+1) * 56≤140737488355328;omega) q1 (fun zv' t2 hR2=>?_)
  have hsup2:=ROut.sup hB' hR2
  have hd:∀ f',ROut (A1G (fun j=>(E7 x.zones j).rates) sv' (k+1)) 184 4 g' (k+1) (upd (upd st b2 ⟨26,4,1,fun _=>K3 r26.zero⟩) b3 ⟨26,4,1,f'⟩) zv' (upd t2 b3 ⟨26,4,1,f'⟩):=fun f'=>by
   have h1:=ROut.write hB' hR2 (b:=b3) (y':=⟨26,4,1,f'⟩) (by rw [A8 h35];exact A0 ..)
   rw [L0 h35.symm,B6] at h1
   refine (M9 hB' _ _ _ _ _).drop h1 ?_
   rw [A8 h35.symm] at hbase5 ⊢;exact hbase5
  exact hK zv' t2 (hsup2 b3 _ (by rw [A8 h35];exact A0 ..)) (ROut.head hR2) fun f'=>⟨sv',g',hd f',q3⟩
 have hbeg:=fun y=>(M9 hB 184 4 g k zv).begin (y:=y) hR hb5
 conv=>whnf
 refine C3 (fun h2=>?_) (fun h2=>?_)<;>rw [h2]<;>simp only [decide_eq_true_eq,decide_eq_false_iff_not] at h2
 case refine_2 =>
  have hz:=B2G (l:=x.zones) (k:=k) (by omega)
  rw [hz] at tail
  rcases ROut.head hR with rfl | ⟨bz,rfl⟩
  all_goals
   conv=>whnf
   refine E9 (by rw [A8 h35];exact at3) rfl (by omega) hf ?_;conv=>whnf
   refine E9 (A0 ..) rfl (by omega) (A2 ..) ?_;conv=>whnf
   obtain ⟨s1,hcol,hrt⟩:=B4M (hbeg ⟨184,4,1,G5 (fun _=>K3 C0o.zero) 0 (.agg [eS (W0 k),.emp,eI (1000 * k),eI (500 * k)])⟩) 218 2 (A6h [])
   refine tail _ s1 .emp _ hcol hrt _ _ rfl rfl _ (fun zv' t2 q1 q2 q3=>?_)
   rcases q2 with rfl | ⟨bq,rfl⟩
   all_goals
    conv=>whnf
    refine K4 q1 rfl (by omega) hf (by rfl) ?_;conv=>whnf
    refine ⟨rfl,?_⟩;conv=>whnf
    exact nx hk3 ⟨_,_,by rw [C0 (by omega)],(by rw [A2];rfl),q3 _⟩
 have hz:=B4k (l:=x.zones) (k:=k) (by omega)
 have hrl:=fun c=>C2y (l:=(x.zones.getD (k:Int).toNat default).rates) (c:=c)
 have hrn:(Q0 (x.zones.getD (k:Int).toNat default).rates).length=min 3 (x.zones.getD (k:Int).toNat default).rates.length:=by unfold Q0;rw [List.length_map,List.length_range]
 rw [hz] at tail
 have hM1:=fun s=>L8 (x.zones.getD (k:Int).toNat default).rest 3000 (by decide) (by decide) s
 have hM2:=fun s=>L8 (x.zones.getD (k:Int).toNat default).ship 3000 (by decide) (by decide) s
 have tail':_:=tail
 rw [show x.zones.getD k default=x.zones.getD (k:Int).toNat default from rfl] at tail'
 clear tail
 generalize Q0 (x.zones.getD (k:Int).toNat default).rates=RL at tail' hrl hrn
 generalize C1 (x.zones.getD (k:Int).toNat default).rest 3000=M1 at tail' hM1
 generalize C1 (x.zones.getD (k:Int).toNat default).ship 3000=M2 at tail' hM2
 conv=>whnf
 refine ⟨[15,17],[],List.range 18,by kernel_rfl,?_⟩;conv=>whnf
 refine ⟨rfl,⟨by omega,by omega⟩,?_⟩;conv=>whnf
 refine ⟨_,C9 (hM1 _),?_⟩;conv=>whnf
 refine ⟨rfl,⟨by omega,by omega⟩,?_⟩;conv=>whnf
 refine ⟨_,C9 (hM2 _),?_⟩;conv=>whnf
 refine K4 (A0 ..) rfl (by omega) (A2 ..) (by rfl) ?_
 rw [B6];conv=>whnf
 refine K4 (A0 ..) rfl (by omega) (A2 ..) (by rfl) ?_
 rw [B6];conv=>whnf
 refine lp (min 3 (x.zones.getD (k:Int).toNat default).rates.length) [1,2,3,4,5,6] (fun c vs s'=>∃ rv f5,vs=[.fptr (B0K x) 0,.optr 4 b2 0 0,.optr 4 b3 0 0,eI k,.optr 4 b5 0 0,eI c]∧f5 0=.agg [eS (W0 k),rv,eI M1,eI M2] ∧
   ∃ s1,H7 184 4 g (upd (upd (upd st b2 ⟨26,4,1,fun _=>K3 r26.zero⟩) b3 ⟨26,4,1,f⟩) b5 ⟨184,4,1,f5⟩) k zv s1∧ROut (A1G (fun j=>(E7 x.zones j).rates) sv k) 218 2 (A6h RL) c s1 rv s') ?_ ?_
 ·conv=>whnf
  exact ⟨.emp,_,rfl,by first | rfl | (rw [A2];rfl),B4M (hbeg _) _ _ _⟩
 rintro c vs s' hc ⟨rv,f5,rfl,hf5,s1,hcol,hrt⟩
 have hsup':=ROut.sup hB hrt
 have at5:s' b5=some ⟨184,4,1,f5⟩:=hsup' b5 _ (hcol.sup b5 _ (A0 ..))
 have at3':s' b3=some ⟨26,4,1,f⟩:=hsup' b3 _ (hcol.sup b3 _ (by rw [A8 h35];exact A0 ..))
 conv=>whnf
 refine C3 (fun h3=>?_) (fun h3=>?_)<;>rw [h3]<;>simp only [decide_eq_true_eq,decide_eq_false_iff_not] at h3
 case' refine_1 =>
  conv=>whnf
  refine ⟨rfl,⟨by omega,by omega⟩,?_⟩;conv=>whnf
  refine C3 (fun h4=>?_) (fun h4=>?_)<;>rw [h4]<;>simp only [decide_eq_true_eq,decide_eq_false_iff_not] at h4
 case refine_1.refine_1 =>
  have hc':c<min 3 (x.zones.getD (k:Int).toNat default).rates.length:=by omega
  have hra:=hrl c hc'
  rcases ROut.head hrt with rfl | ⟨br,rfl⟩
  all_goals
   conv=>whnf
   refine ⟨[17,19],[14],List.range 20,by kernel_rfl,?_⟩;conv=>whnf
   refine E9 at5 rfl (by omega) hf5 ?_;conv=>whnf
   refine ⟨_,C9 (A3K _ _),?_⟩;conv=>whnf
   refine ⟨rfl,⟨by omega,by omega⟩,?_⟩;conv=>whnf
   refine ⟨rfl,⟨by omega,by omega⟩,?_⟩;conv=>whnf
   refine ⟨_,fun s _=>C9 (L8 _ 3000 (by decide) (by decide) s),?_⟩;conv=>whnf
   refine ⟨_,⟨rfl,rfl⟩,?_⟩;conv=>whnf
   refine ROut.app (q:=C2t) hB rfl rfl rfl rfl rfl (f:=A6h RL) (by show _=A0J _;rw [hra];rfl) (by show (c+1) * 24≤140737488355328;omega) hrt (fun rv' t2 hrt2=>?_)
   have at5':t2 b5=some ⟨184,4,1,f5⟩:=ROut.sup hB hrt2 b5 _ (hcol.sup b5 _ (A0 ..))
   rcases ROut.head hrt2 with rfl | ⟨br',rfl⟩
   all_goals
    conv=>whnf
    refine K4 at5' rfl (by omega) hf5 (by rfl) ?_;conv=>whnf
    refine ⟨rfl,?_⟩;conv=>whnf
    exact nx hc' ⟨_,_,by rw [C0 (by omega)],(by rw [A2];rfl),C2K hB hcol hrt2 _⟩
 all_goals
  have hce:RL.length=c:=by omega
  rw [←hce] at hrt
  rcases ROut.head hR with rfl | ⟨bz,rfl⟩
  all_goals
   rcases ROut.head hrt with rfl | ⟨br,rfl⟩
   all_goals
    conv=>whnf
    refine E9 at3' rfl (by omega) hf ?_;conv=>whnf
    refine E9 at5 rfl (by omega) hf5 ?_;conv=>whnf
    refine tail' _ s1 _ _ hcol hrt _ _ rfl rfl _ (fun zv' t2 q1 q2 q3=>?_)
    rcases q2 with rfl | ⟨bq,rfl⟩
    all_goals
     conv=>whnf
     refine K4 q1 rfl (by omega) hf (by rfl) ?_;conv=>whnf
     refine ⟨rfl,?_⟩;conv=>whnf
     exact nx hk3 ⟨_,_,by rw [C0 (by omega)],(by rw [A2];rfl),q3 _⟩
def A0Y (scopes:List O4) (x:Ab.Item) (k:Nat):List Int:=((List.range k).filter fun j=>A0B (scopes.getD j default) x).map Int.ofNat
theorem B5A (scopes:List O4) (x:Ab.Item) (k:Nat):A0Y scopes x (k+1)=A0Y scopes x k++(if A0B (scopes.getD k default) x=true then [(k:Int)] else []):=by
 unfold A0Y
 rw [List.range_succ,List.filter_append,List.map_append]
 congr 1
 by_cases h:A0B (scopes.getD k default) x=true
 ·rw [if_pos h,List.filter_cons_of_pos (by exact h)];rfl
 ·rw [if_neg h,List.filter_cons_of_neg (by exact h)];rfl
theorem B1n (scopes:List O4) (x:Ab.Item) (k:Nat):(A0Y scopes x k).length≤k:=by
 unfold A0Y
 rw [List.length_map]
 exact Nat.le_trans (List.length_filter_le ..) (by rw [List.length_range];exact Nat.le_refl _)
set_option maxHeartbeats 2000000 in
theorem B9N (x:Ab.Item) (scopes:List O4) (hn:scopes.length≤100000) (hs:∀ s∈scopes,s.skus.length≤20∧s.cats.length≤20) (st:St) :
  S P 201 [.arr 4 1 (fun _=>E3 x),A7 2 J3 scopes] st fun v st'=>v=A7 1 B3 [A0Y scopes x scopes.length]∧st'=st:=by
 refine S.post (post:=fun v u=>∃ bo sv f,v=.own 1 bo 0 1∧f 0=sv∧st bo=none∧ROut F2 3 1 (fun k=>eI (gI (A0Y scopes x scopes.length) k)) (A0Y scopes x scopes.length).length (upd st bo ⟨29,1,1,f⟩) sv u) ?_ (fun v u hv=>?_)
 ·refine A5 [7,12] B7 mixed Tryz.func201 (by rfl) rfl rfl rfl ?_;conv=>whnf
  refine mkO rfl rfl rfl (by show 24 * 1≤_;omega) (by omega) (by rfl) (fun bo hbo=>?_);conv=>whnf
  refine lp scopes.length [0,5,16,17,18] (fun k vs u=>∃ sv f,vs=[.arr 4 1 (fun _=>E3 x),.own 1 bo 0 1,A7 2 J3 scopes,eI scopes.length,eI k]∧f 0=sv∧ROut F2 3 1 (fun j=>eI (gI (A0Y scopes x k) j)) (A0Y scopes x k).length (upd st bo ⟨29,1,1,f⟩) sv u) ?_ ?_
  ·conv=>whnf
   exact ⟨.emp,_,rfl,rfl,show ROut _ _ _ _ 0 _ _ _ from ROut.start (F2.refl _) _ _ _⟩
  rintro k vs u hk ⟨sv,f,rfl,hf,hR⟩
  conv=>whnf
  cases h1:decide ((k:Int)<(scopes.length:Int))
  ·obtain rfl:=D1 h1 hk
   conv=>whnf
   exact ⟨bo,sv,f,rfl,hf,hbo,hR⟩
  have hk':=F7 h1
  have hsc:=hs _ (B4 hk')
  obtain ⟨s,hse⟩:∃ s,s=scopes.getD (k:Int).toNat default:=⟨_,rfl⟩
  have hsk:scopes.getD k default=s:=by rw [hse];rfl
  rw [hsk] at hsc
  have w:IntKind.i64.wrap ((s.skus.length:Int)+(s.cats.length:Int))=((s.skus.length+s.cats.length:Nat):Int):=by rw [A9 (by omega) (by omega)];omega
  have hup:=B5A scopes x k
  rw [hsk] at hup
  have hl:=B1n scopes x k
  have n1:=fun u=>B2s s.skus x.sku (by omega) u
  have n2:=fun u=>B2s s.cats x.cat (by omega) u
  conv=>whnf
  refine ⟨rfl,⟨by omega,by omega⟩,?_⟩;conv=>whnf
  rw [←hse]
  refine ⟨[],[],List.range 8,by kernel_rfl,?_⟩;conv=>whnf
  rw [w,A1V]
  generalize hall:(s.skus.length+s.cats.length==0)=all
  refine lp 1 [0,5,6,8,9,10,16,17,18,37,38,39] (fun i vs u=>∃ sv f L,vs=[.arr 4 1 (fun _=>E3 x),.own 1 bo 0 1,eI k,.fn (.func 281) [D3 s.skus] [],.fn (.func 281) [D3 s.cats] [],.bool all,A7 2 J3 scopes,eI scopes.length,eI k,.arr 4 1 (fun _=>E3 x),eI 1,eI i]∧L=A0Y scopes x (k+i)∧f 0=sv∧ROut F2 3 1 (fun j=>eI (gI L j)) L.length (upd st bo ⟨29,1,1,f⟩) sv u) ?_ ?_
  ·conv=>whnf
   exact ⟨sv,f,_,rfl,rfl,hf,hR⟩
  clear hR hf
  rintro i vs u hi ⟨sv,f,L,rfl,hL,hf,hR⟩
  conv=>whnf
  cases h2:decide ((i:Int)<((1:Nat):Int))
  ·have:=of_decide_eq_false h2
   obtain rfl:i=1:=by omega
   conv=>whnf
   refine ⟨rfl,?_⟩;conv=>whnf
   exact nx hk' ⟨sv,f,by rw [C0 (by omega)],hf,by rw [←hL];exact hR⟩
  ·have:=of_decide_eq_true h2
   obtain rfl:i=0:=by omega
   rw [Nat.add_zero] at hL
   have atO:=ROut.sup C5 hR bo _ (A0 ..)
   have step:∀ b:Bool,A0B s x=b→A0Y scopes x (k+(0+1))=L++(if b=true then [(k:Int)] else []):=fun b hb=>by rw [Nat.zero_add,hup,hb,hL]
   conv=>whnf
   refine ⟨rfl,⟨by omega,by omega⟩,?_⟩;conv=>whnf
   cases all
   case' true=>have hb:A0B s x=true:=by unfold A0B;rw [hall];rfl
   case' false =>
    conv=>whnf
    refine A4 (n1 _) ?_;conv=>whnf
    cases h3:inB s.skus x.sku
   case' false.true=>have hb:A0B s x=true:=by unfold A0B;rw [hall,h3];rfl
   case' false.false =>
    conv=>whnf
    refine A4 (n2 _) ?_;conv=>whnf
    cases h4:inB s.cats x.cat
   case' false.false.true=>have hb:A0B s x=true:=by unfold A0B;rw [hall,h3,h4];rfl
   case false.false.false =>
    have hb:A0B s x=false:=by unfold A0B;rw [hall,h3,h4];rfl
    conv=>whnf
    refine ⟨rfl,?_⟩;conv=>whnf
    exact nx (i:=0) (by omega) ⟨sv,f,L,by rw [C0 (by omega)],by rw [step false hb];simp,hf,hR⟩
   all_goals
    have st1:=step true hb
    rw [if_pos rfl] at st1
    have hLl:L.length≤100000:=by rw [hL];omega
    conv=>whnf
    refine ⟨rfl,⟨by omega,by omega⟩,?_⟩;conv=>whnf
    rcases ROut.head hR with rfl | ⟨bi,rfl⟩
    all_goals
     refine E9 atO rfl (by omega) hf ?_;conv=>whnf
     refine ROut.app (q:=r3) C5 rfl rfl rfl rfl rfl (f:=fun j=>eI (gI (L++[(k:Int)]) j)) (by show eI _=eI _;unfold gI;rw [A7I]) (by show (L.length+1) * 8≤140737488355328;omega) (ROut.congr hR fun j hj=>by show eI _=eI _;unfold gI;rw [A0c hj]) (fun sv' t2 hR2=>?_);conv=>whnf
     refine ⟨rfl,⟨by omega,by omega⟩,?_⟩;conv=>whnf
     refine B4L (ROut.sup C5 hR2 bo _ (A0 ..)) rfl rfl (by omega) hf (ROut.one hR2) (by decide) ?_;conv=>whnf
     refine ⟨rfl,?_⟩;conv=>whnf
     exact nx (i:=0) (by omega) ⟨sv',G5 f 0 sv',L++[(k:Int)],by rw [C0 (by omega)],st1.symm,A2 ..,by
      have:=ROut.putB (y':=⟨29,1,1,G5 f 0 sv'⟩) C5 hR2
      rw [List.length_append];exact this⟩
 ·obtain ⟨bo,sv,f,rfl,hf,hbo,hR⟩:=hv
  obtain ⟨t1,h1,h2⟩:=ROut.shift C5 hR
  have at1:=ROut.sup C5 hR bo _ (A0 ..)
  have at2:=h2 bo _ (A0 ..)
  have h3:=fun vs=>B2.elem (vs:=vs) h1 at1 at2 (show 0<1 by omega) hf (ROut.one hR) rfl
  refine ⟨_,st,⟨rfl,rfl⟩,(h3 _).trans ((K8 (f:=fun i=>B3 ([A0Y scopes x scopes.length].getD i default)) (A0 ..) rfl (Nat.le_refl _) (fun i hi=>?_)).trans (F2.shift (fun b y hb=>?_) _))⟩
  ·obtain rfl:i=0:=by have:i<1:=hi;omega
   show G5 f 0 _ 0=_
   rw [A2];rfl
  ·have hne:b≠bo:=fun e=>by subst e;rw [hbo] at hb;cases hb
   rw [Z6 hne,A8 hne]
   exact h2 b y (by rw [A8 hne];exact hb)
theorem B3y (l:List Ab.Item) (hl:l.length≤100000) (st:St):S P 187 [A7 4 E3 l] st fun v st'=>G0 76 4 E3 l st v st':=by
 refine A5 [] B7 mixed Tryz.func187 (by rfl) rfl rfl rfl ?_
 cases l with
 | nil =>
  conv=>whnf
  refine ⟨?_,?_⟩
  ·conv=>whnf
   exact H7.start _ _ _ _
  ·conv=>whnf
   refine apE rfl rfl rfl rfl rfl (by show 0 * 48≤_;omega) (fun _=>?_) (fun h=>absurd h (by show ¬ 0<0;omega));conv=>whnf
   exact H7.start _ _ _ _
 | cons u us =>
  conv=>whnf
  refine H7.apps (n:=0) (m:=us.length+1) (q:=r76) (f:=fun k=>E3 ((u::us).getD k default)) rfl rfl rfl rfl rfl (fun i hi=>by rw [Nat.zero_add]) (by show (0+(us.length+1)) * 48≤140737488355328;simp only [List.length_cons] at hl;omega) (H7.start _ _ _ _) (fun sv' st'' hc'=>?_);conv=>whnf
  rw [Nat.zero_add] at hc'
  exact hc'
theorem B1Z (l:List Ab.Item) (hl:l.length≤100000) (st:St):S P 187 [A7 4 E3 l] st fun v st'=>v=A7 4 E3 l∧st'=st:=W7 (B3y l hl st)
theorem B2b (l:List B1) (hl:l.length≤100000) (st:St):S P 188 [A7 15 B8 l] st fun v st'=>G0 83 15 B8 l st v st':=by
 refine A5 [] B7 mixed Tryz.func188 (by rfl) rfl rfl rfl ?_
 cases l with
 | nil =>
  conv=>whnf
  refine ⟨?_,?_⟩
  ·conv=>whnf
   exact H7.start _ _ _ _
  ·conv=>whnf
   refine apE rfl rfl rfl rfl rfl (by show 0 * 208≤_;omega) (fun _=>?_) (fun h=>absurd h (by show ¬ 0<0;omega));conv=>whnf
   exact H7.start _ _ _ _
 | cons u us =>
  conv=>whnf
  refine H7.apps (n:=0) (m:=us.length+1) (q:=r83) (f:=fun k=>B8 ((u::us).getD k default)) rfl rfl rfl rfl rfl (fun i hi=>by rw [Nat.zero_add]) (by show (0+(us.length+1)) * 208≤140737488355328;simp only [List.length_cons] at hl;omega) (H7.start _ _ _ _) (fun sv' st'' hc'=>?_);conv=>whnf
  rw [Nat.zero_add] at hc'
  exact hc'
theorem B3C (l:List U3) (hl:l.length≤100000) (st:St):S P 189 [A7 4 S8 l] st fun v st'=>G0 184 4 S8 l st v st':=by
 refine A5 [] B7 mixed Tryz.func189 (by rfl) rfl rfl rfl ?_
 cases l with
 | nil =>
  conv=>whnf
  refine ⟨?_,?_⟩
  ·conv=>whnf
   exact H7.start _ _ _ _
  ·conv=>whnf
   refine apE rfl rfl rfl rfl rfl (by show 0 * 56≤_;omega) (fun _=>?_) (fun h=>absurd h (by show ¬ 0<0;omega));conv=>whnf
   exact H7.start _ _ _ _
 | cons u us =>
  conv=>whnf
  refine H7.apps (n:=0) (m:=us.length+1) (q:=C0o) (f:=fun k=>S8 ((u::us).getD k default)) rfl rfl rfl rfl rfl (fun i hi=>by rw [Nat.zero_add]) (by show (0+(us.length+1)) * 56≤140737488355328;simp only [List.length_cons] at hl;omega) (H7.start _ _ _ _) (fun sv' st'' hc'=>?_);conv=>whnf
  rw [Nat.zero_add] at hc'
  exact hc'
theorem B5i (l:List D7) (hl:l.length≤100000) (st:St):S P 105 [A7 1 eS l] st fun v st'=>G0 9 1 eS l st v st':=by
 refine A5 [] B7 mixed Tryz.func105 (by rfl) rfl rfl rfl ?_
 cases l with
 | nil =>
  conv=>whnf
  refine ⟨?_,?_⟩
  ·conv=>whnf
   exact H7.start _ _ _ _
  ·conv=>whnf
   refine apE rfl rfl rfl rfl rfl (by show 0 * 16≤_;omega) (fun _=>?_) (fun h=>absurd h (by show ¬ 0<0;omega));conv=>whnf
   exact H7.start _ _ _ _
 | cons u us =>
  conv=>whnf
  refine H7.apps (n:=0) (m:=us.length+1) (q:=r9) (f:=fun k=>eS ((u::us).getD k default)) rfl rfl rfl rfl rfl (fun i hi=>by rw [Nat.zero_add]) (by show (0+(us.length+1)) * 16≤140737488355328;simp only [List.length_cons] at hl;omega) (H7.start _ _ _ _) (fun sv' st'' hc'=>?_);conv=>whnf
  rw [Nat.zero_add] at hc'
  exact hc'
theorem A4E (l:List D7) (hl:l.length≤100000) (st:St):S P 105 [A7 1 eS l] st fun v st'=>v=A7 1 eS l∧st'=st:=W7 (B5i l hl st)
theorem B3z (l:List A1b) (hl:l.length≤100000) (st:St):S P 191 [A7 3 O9 l] st fun v st'=>G0 244 3 O9 l st v st':=by
 refine A5 [] B7 mixed Tryz.func191 (by rfl) rfl rfl rfl ?_
 cases l with
 | nil =>
  conv=>whnf
  refine ⟨?_,?_⟩
  ·conv=>whnf
   exact H7.start _ _ _ _
  ·conv=>whnf
   refine apE rfl rfl rfl rfl rfl (by show 0 * 56≤_;omega) (fun _=>?_) (fun h=>absurd h (by show ¬ 0<0;omega));conv=>whnf
   exact H7.start _ _ _ _
 | cons u us =>
  conv=>whnf
  refine H7.apps (n:=0) (m:=us.length+1) (q:=C2v) (f:=fun k=>O9 ((u::us).getD k default)) rfl rfl rfl rfl rfl (fun i hi=>by rw [Nat.zero_add]) (by show (0+(us.length+1)) * 56≤140737488355328;simp only [List.length_cons] at hl;omega) (H7.start _ _ _ _) (fun sv' st'' hc'=>?_);conv=>whnf
  rw [Nat.zero_add] at hc'
  exact hc'
theorem B3A (l:List Y6) (hl:l.length≤100000) (st:St):S P 192 [A7 3 L4 l] st fun v st'=>G0 257 3 L4 l st v st':=by
 refine A5 [] B7 mixed Tryz.func192 (by rfl) rfl rfl rfl ?_
 cases l with
 | nil =>
  conv=>whnf
  refine ⟨?_,?_⟩
  ·conv=>whnf
   exact H7.start _ _ _ _
  ·conv=>whnf
   refine apE rfl rfl rfl rfl rfl (by show 0 * 24≤_;omega) (fun _=>?_) (fun h=>absurd h (by show ¬ 0<0;omega));conv=>whnf
   exact H7.start _ _ _ _
 | cons u us =>
  conv=>whnf
  refine H7.apps (n:=0) (m:=us.length+1) (q:=C0p) (f:=fun k=>L4 ((u::us).getD k default)) rfl rfl rfl rfl rfl (fun i hi=>by rw [Nat.zero_add]) (by show (0+(us.length+1)) * 24≤140737488355328;simp only [List.length_cons] at hl;omega) (H7.start _ _ _ _) (fun sv' st'' hc'=>?_);conv=>whnf
  rw [Nat.zero_add] at hc'
  exact hc'
theorem B2d (l:List Y6) (hl:l.length≤100000) (st:St):S P 192 [A7 3 L4 l] st fun v st'=>v=A7 3 L4 l∧st'=st:=W7 (B3A l hl st)
theorem B5h (l:List Int) (hl:l.length≤100000) (st:St):S P 115 [A7 1 eI l] st fun v st'=>G0 3 1 eI l st v st':=by
 refine A5 [] B7 mixed Tryz.func115 (by rfl) rfl rfl rfl ?_
 cases l with
 | nil =>
  conv=>whnf
  refine ⟨?_,?_⟩
  ·conv=>whnf
   exact H7.start _ _ _ _
  ·conv=>whnf
   refine apE rfl rfl rfl rfl rfl (by show 0 * 8≤_;omega) (fun _=>?_) (fun h=>absurd h (by show ¬ 0<0;omega));conv=>whnf
   exact H7.start _ _ _ _
 | cons u us =>
  conv=>whnf
  refine H7.apps (n:=0) (m:=us.length+1) (q:=r3) (f:=fun k=>eI ((u::us).getD k default)) rfl rfl rfl rfl rfl (fun i hi=>by rw [Nat.zero_add]) (by show (0+(us.length+1)) * 8≤140737488355328;simp only [List.length_cons] at hl;omega) (H7.start _ _ _ _) (fun sv' st'' hc'=>?_);conv=>whnf
  rw [Nat.zero_add] at hc'
  exact hc'
theorem A4D (l:List Int) (hl:l.length≤100000) (st:St):S P 115 [A7 1 eI l] st fun v st'=>v=A7 1 eI l∧st'=st:=W7 (B5h l hl st)
theorem A8f (l:List F0) (hl:l.length≤100000) (st:St):S P 108 [A7 3 E4 l] st fun v st'=>G0 56 3 E4 l st v st':=by
 refine A5 [] B7 mixed Tryz.func108 (by rfl) rfl rfl rfl ?_
 cases l with
 | nil =>
  conv=>whnf
  refine ⟨?_,?_⟩
  ·conv=>whnf
   exact H7.start _ _ _ _
  ·conv=>whnf
   refine apE rfl rfl rfl rfl rfl (by show 0 * 32≤_;omega) (fun _=>?_) (fun h=>absurd h (by show ¬ 0<0;omega));conv=>whnf
   exact H7.start _ _ _ _
 | cons u us =>
  conv=>whnf
  refine H7.apps (n:=0) (m:=us.length+1) (q:=r56) (f:=fun k=>E4 ((u::us).getD k default)) rfl rfl rfl rfl rfl (fun i hi=>by rw [Nat.zero_add]) (by show (0+(us.length+1)) * 32≤140737488355328;simp only [List.length_cons] at hl;omega) (H7.start _ _ _ _) (fun sv' st'' hc'=>?_);conv=>whnf
  rw [Nat.zero_add] at hc'
  exact hc'
theorem B2a (l:List F0) (hl:l.length≤100000) (st:St):S P 108 [A7 3 E4 l] st fun v st'=>v=A7 3 E4 l∧st'=st:=W7 (A8f l hl st)
end Go.Proofs.YthdimklenlikgaaGreat
namespace Go.Ab
open Go
inductive PT where
 | done
 | qui (i:Nat) (t:PT)
 | eff (i:Nat) (keep:List Nat) (t:PT)
 | two (i j:Nat) (ki kj:List Nat) (t u:PT)
def okP (ops:Array Oper) (eff:List Nat):PT→List Nat→Nat→Array Bool→Bool
 | .done,pd,n,listed=>n==0&&(Region.ready .any ops listed).isEmpty
 | .qui i t,pd,n,listed=>(match ops[i]? with
   | none=>false
   | some o=>(Region.ready .any ops listed).contains i&&Region.free .any ops listed i)&&Nat.blt 0 n&&okP ops eff t (match ops[i]? with | none=>pd | some o=>(match X5 o.op with | true=>pd | false=>i::pd)) (n - 1) (listed.setIfInBounds i true)
 | .eff i keep t,pd,n,listed=>eff.contains i&&(Region.ready .any ops listed==[i])&&(pd.all fun p=>keep.contains p||waitsC ops eff p i)&&Nat.blt 0 n&&okP ops eff t pd (n - 1) (listed.setIfInBounds i true)
 | .two i j ki kj t u,pd,n,listed=>eff.contains i&&eff.contains j&&(Region.ready .any ops listed==[i,j])&&(pd.all fun p=>ki.contains p||waitsC ops eff p i)&&(pd.all fun p=>kj.contains p||waitsC ops eff p j)&&Nat.blt 0 n&&okP ops eff t pd (n - 1) (listed.setIfInBounds i true)&&okP ops eff u pd (n - 1) (listed.setIfInBounds j true)
abbrev A4x:=List (Nat×(St→Prop))
def A6Y (keep:List Nat) (st st':St) (k:Prop):A4x→Prop
 | []=>k
 | (i,C)::l=>match keep.contains i with
  | true=>(C st→C st')∧A6Y keep st st' k l
  | false=>A6Y keep st st' k l
theorem A7N {keep:List Nat} {st st':St} {k:Prop}:∀ {pd:A4x},A6Y keep st st' k pd→k∧∀ p∈pd,keep.contains p.1=true→p.2 st→p.2 st'
 | [],h=>⟨h,fun p hp=>absurd hp List.not_mem_nil⟩
 | (i,C)::l,h=>by
  unfold A6Y at h
  split at h
  ·rename_i hk
   obtain ⟨h1,h2⟩:=A7N h.2
   refine ⟨h1,fun p hp=>?_⟩
   rcases List.mem_cons.1 hp with rfl | hp
   ·exact fun _=>h.1
   ·exact h2 p hp
  ·rename_i hk
   obtain ⟨h1,h2⟩:=A7N h
   refine ⟨h1,fun p hp hk2=>?_⟩
   rcases List.mem_cons.1 hp with rfl | hp
   ·rw [hk] at hk2;cases hk2
   ·exact h2 p hp hk2
def B5m (P:Program) (T:G4) (M:H1) (ops:List Oper) (i:Nat) (keep:List Nat) (pd:A4x) (K:KA) (A:List AV) (st:St):Prop :=
 match ops[i]? with
 | none=>False
 | some o=>match A0b ops o A with
  | none=>False
  | some b=>(b=true→aOp P T M o A st fun v st'=>A6Y keep st st' (K (I4 A o.dst v) st') pd)∧(b=false→K (I4 A o.dst (.tuple [])) st)
def A4F (P:Program) (T:G4) (M:H1) (ops:List Oper):PT→A4x→List AV→St→KA→Prop
 | .done,_,A,st,k=>k A st
 | .qui i t,pd,A,st,k=>match ops[i]? with
  | none=>False
  | some o=>match A0b ops o A with
   | none=>False
   | some b=>(b=true→match X5 o.op with
     | true=>∃ v,(aOp P T M o A st fun v' s=>v'=v∧s=st)∧A4F P T M ops t pd (I4 A o.dst v) st k
     | false=>∃ (v:AV) (C:St→Prop),C st∧(∀ s,C s→aOp P T M o A s fun v' s'=>v'=v∧s'=s)∧A4F P T M ops t ((i,C)::pd) (I4 A o.dst v) st k) ∧
    (b=false→A4F P T M ops t pd (I4 A o.dst (.tuple [])) st k)
 | .eff i keep t,pd,A,st,k=>B5m P T M ops i keep pd (fun A' st'=>A4F P T M ops t pd A' st' k) A st
 | .two i j ki kj t u,pd,A,st,k=>B5m P T M ops i ki pd (fun A' st'=>A4F P T M ops t pd A' st' k) A st∧B5m P T M ops j kj pd (fun A' st'=>A4F P T M ops u pd A' st' k) A st
def A9C (P:Program) (T:G4) (M:H1) (ops:Array Oper) (eff:Nat→Bool) (wait:Nat→Nat→Bool) (Q:KA) (pd:A4x):Nat→Array Bool→KA
 | 0,listed,A,st=>Region.ready .any ops listed=[]∧Q A st
 | fuel+1,listed,A,st=>(Region.ready .any ops listed=[]→Q A st)∧∀ j∈Region.ready .any ops listed,
   nOp P T M ops eff j (fun A' st'=>A9C P T M ops eff wait Q pd fuel (listed.setIfInBounds j true) A' st'∧∀ p∈pd,wait p.1 j=false→p.2 st→p.2 st') A st
section
variable {P:Program} {T:G4} {M:H1} {ops:Array Oper} {eff:Nat→Bool} {wait:Nat→Nat→Bool} {Q:KA}
theorem A2t {pd pd':A4x} (hp:∀ p∈pd',p∈pd∨∀ s,p.2 s):∀ (fuel:Nat) (listed:Array Bool) (A:List AV) (st:St),A9C P T M ops eff wait Q pd fuel listed A st→A9C P T M ops eff wait Q pd' fuel listed A st
 | 0,listed,A,st,h=>h
 | fuel+1,listed,A,st,h=>⟨h.1,fun j hj=>Y9 (fun A' st' hk=>⟨A2t hp fuel _ _ _ hk.1,fun p hpp hw hs=>by
   rcases hp p hpp with h1 | h1
   ·exact hk.2 p h1 hw hs
   ·exact h1 _⟩) (h.2 j hj)⟩
theorem B1r {pd:A4x}:∀ (fuel:Nat) (listed:Array Bool) (A:List AV) (st:St),A9C P T M ops eff wait Q pd fuel listed A st→B2o P T M ops eff Q fuel listed A st
 | 0,listed,A,st,h=>h
 | fuel+1,listed,A,st,h=>⟨h.1,fun j hj=>Y9 (fun A' st' hk=>B1r fuel _ _ _ hk.1) (h.2 j hj)⟩
theorem B3V {C:St→Prop} {i:Nat} {oi:Oper} {v:AV} {pd:A4x} (hi:ops[i]?=some oi)
  (hW:∀ j,wait i j=true→∃ oj,ops[j]?=some oj∧∃ e∈oj.after,Region.binds .any e=true∧(e.on=i∨wait i e.on=true)) :
  ∀ (fuel:Nat) (listed:Array Bool) (A:List AV) (st:St),
   (∀ j oj,ops[j]?=some oj→j≠i→listed.getD j true=false→(∀ e∈oj.after,Region.binds .any e=true→e.on≠i)→oi.apart ops oj=true) →
   (∀ j,wait i j=true→listed.getD j false=false) →
   i∈Region.ready .any ops listed→C st→(∀ st',C st'→Yq P T M ops oi v A st') →
   A9C P T M ops eff wait Q ((i,C)::pd) fuel (listed.setIfInBounds i true) (I4 A oi.dst v) st→A9C P T M ops eff wait Q pd (fuel+1) listed A st:=by
 intro fuel
 induction fuel with
 | zero =>
  intro listed A st _ hWl hr hC hy H
  refine ⟨fun h=>(by rw [h] at hr;cases hr),fun j hj=>?_⟩
  by_cases hji:j=i
  ·subst hji
   exact A5x hi (hy st hC) ⟨H,fun _ _ _ h=>h⟩
  ·have:=ready_mono hj hji
   rw [H.1] at this
   cases this
 | succ fuel ih =>
  intro listed A st hfree hWl hr hC hy H
  refine ⟨fun h=>(by rw [h] at hr;cases hr),fun j hj=>?_⟩
  by_cases hji:j=i
  ·subst hji
   exact A5x hi (hy st hC) ⟨A2t (fun p hp=>.inl (List.mem_cons_of_mem _ hp)) _ _ _ _ H,fun _ _ _ h=>h⟩
  ·have h1:=H.2 j (ready_mono hj hji)
   obtain ⟨hjun,oj,hoj,hall⟩:=mem_ready.1 hj
   have hiun:=(mem_ready.1 hr).1
   have hii:listed.getD i false=false:=U5 hiun
   have hnot:∀ e∈oj.after,Region.binds .any e=true→e.on≠i:=fun e he hb heq=>by
    have h1:=hall e he hb
    rw [heq,hii] at h1
    cases h1
   have hnW:wait i j=false:=by
    cases hw:wait i j with
    | false=>rfl
    | true =>
     obtain ⟨oj',hoj',e,he,hb,hon⟩:=hW j hw
     rw [hoj] at hoj'
     cases hoj'
     have h2:=hall e he hb
     rcases hon with hon | hon
     ·rw [hon,hii] at h2;cases h2
     ·rw [hWl _ hon] at h2;cases h2
   have h2:=B6W hoj (hfree j oj hoj hji hjun hnot) hy h1
   have hfree':∀ k ok,ops[k]?=some ok→k≠i→(listed.setIfInBounds j true).getD k true=false →
     (∀ e∈ok.after,Region.binds .any e=true→e.on≠i)→oi.apart ops ok=true:=fun k ok hk hki hun hno=>by
    refine hfree k ok hk hki ?_ hno
    by_cases hjk:j=k
    ·subst hjk;exact hjun
    ·rw [getD_set_ne true hjk] at hun;exact hun
   have hWl':∀ k,wait i k=true→(listed.setIfInBounds j true).getD k false=false:=fun k hk=>by
    rw [getD_set_ne false (fun (e:j=k)=>by rw [e,hk] at hnW;cases hnW)];exact hWl k hk
   refine Y9 (fun A' st' h3=>⟨?_,fun p hp hw hs=>h3.2.2 p (List.mem_cons_of_mem _ hp) hw hs⟩) h2
   refine ih (listed.setIfInBounds j true) A' st' hfree' hWl' (ready_mono hr (Ne.symm hji)) (h3.2.2 _ (List.mem_cons_self ..) hnW hC) h3.1 ?_
   rw [Array.setIfInBounds_comm _ _ hji]
   exact h3.2.1
end
section
variable {P:Program} {T:G4} {M:H1} {ops:Array Oper}
theorem B5n {eff:List Nat} {i:Nat} {keep:List Nat} {pd:A4x} {pdI:List Nat} {K K':KA} {A:List AV} {st:St} (hc:eff.contains i=true) (hin:∀ p∈pd,p.1∈pdI)
  (hall:(pdI.all fun p=>keep.contains p||waitsC ops eff p i)=true) (hK:∀ A st,K A st→K' A st) (h:B5m P T M ops.toList i keep pd K A st) :
  nOp P T M ops (fun j=>eff.contains j) i (fun A' st'=>K' A' st'∧∀ p∈pd,waitsC ops eff p.1 i=false→p.2 st→p.2 st') A st:=by
 unfold B5m at h
 rw [Array.getElem?_toList] at h
 unfold nOp
 cases ho:ops[i]? with
 | none=>rw [ho] at h;exact h.elim
 | some o =>
  rw [ho] at h
  simp only [hc,if_true] at h ⊢
  split at h
  ·exact h.elim
  ·rename_i b hb
   rw [hb]
   refine ⟨fun e=>L6 (fun v st' hk=>?_) (h.1 e),fun e=>⟨hK _ _ (h.2 e),fun p _ _ hs=>hs⟩⟩
   obtain ⟨h1,h2⟩:=A7N hk
   refine ⟨hK _ _ h1,fun p hp hw hs=>h2 p hp ?_ hs⟩
   have:=List.all_eq_true.1 hall p.1 (hin p hp)
   rw [hw,Bool.or_false] at this
   exact this
theorem A0s {eff:List Nat} {Q:KA}:∀ (t:PT) (pdI:List Nat) (pd:A4x) (n:Nat) (listed:Array Bool) (A:List AV) (st:St),(∀ p∈pd,p.1∈pdI)→A6A ops listed→okP ops eff t pdI n listed=true→A4F P T M ops.toList t pd A st Q →
  A9C P T M ops (fun j=>eff.contains j) (waitsC ops eff) Q pd n listed A st
 | .done,pdI,pd,n,listed,A,st,hin,hD,hO,h=>by
  unfold okP at hO
  simp only [Bool.and_eq_true,beq_iff_eq] at hO
  obtain ⟨rfl,hO⟩:=hO
  exact ⟨by simpa using hO,h⟩
 | .eff i keep t,pdI,pd,n,listed,A,st,hin,hD,hO,h=>by
  unfold okP at hO
  simp only [Bool.and_eq_true,Nat.blt_eq] at hO
  obtain ⟨⟨⟨⟨hc,hr⟩,hall⟩,hn⟩,hO'⟩:=hO
  have hr:=eq_of_beq hr
  obtain ⟨n,rfl⟩:∃ m,n=m+1:=⟨n - 1,by omega⟩
  have hr':i∈Region.ready .any ops listed:=by rw [hr];simp
  refine ⟨fun h0=>(by rw [hr] at h0;cases h0),fun j hj=>?_⟩
  rw [hr] at hj
  simp only [List.mem_singleton] at hj
  subst hj
  exact B5n hc hin hall (fun A' st' hk=>A0s t pdI pd n _ A' st' hin (hD.set hr') hO' hk) h
 | .two i j ki kj t u,pdI,pd,n,listed,A,st,hin,hD,hO,h=>by
  unfold okP at hO
  simp only [Bool.and_eq_true,Nat.blt_eq] at hO
  obtain ⟨⟨⟨⟨⟨⟨⟨hc1,hc2⟩,hr⟩,ha1⟩,ha2⟩,hn⟩,hO1⟩,hO2⟩:=hO
  have hr:=eq_of_beq hr
  obtain ⟨n,rfl⟩:∃ m,n=m+1:=⟨n - 1,by omega⟩
  have hri:i∈Region.ready .any ops listed:=by rw [hr];simp
  have hrj:j∈Region.ready .any ops listed:=by rw [hr];simp
  obtain ⟨h1,h2⟩:=h
  refine ⟨fun h0=>(by rw [hr] at h0;cases h0),fun k hk=>?_⟩
  rw [hr] at hk
  simp only [List.mem_cons,List.not_mem_nil,or_false] at hk
  rcases hk with rfl | rfl
  ·exact B5n hc1 hin ha1 (fun A' st' hk=>A0s t pdI pd n _ A' st' hin (hD.set hri) hO1 hk) h1
  ·exact B5n hc2 hin ha2 (fun A' st' hk=>A0s u pdI pd n _ A' st' hin (hD.set hrj) hO2 hk) h2
 | .qui i t,pdI,pd,n,listed,A,st,hin,hD,hO,h=>by
  unfold okP at hO
  simp only [Bool.and_eq_true,Nat.blt_eq] at hO
  obtain ⟨⟨hO,hn⟩,hO'⟩:=hO
  obtain ⟨n,rfl⟩:∃ m,n=m+1:=⟨n - 1,by omega⟩
  unfold A4F at h
  rw [Array.getElem?_toList] at h
  cases ho:ops[i]? with
  | none=>rw [ho] at hO;cases hO
  | some o =>
   rw [ho] at hO h hO'
   simp only [Bool.and_eq_true] at hO h hO'
   obtain ⟨hr,hf⟩:=hO
   have hr':i∈Region.ready .any ops listed:=by simpa using hr
   have hiun:=U5 (mem_ready.1 hr').1
   have hfree:=Region.free_spec ho hf
   split at h
   ·exact h.elim
   rename_i b hb
   have first:=fun (v:AV) (C:St→Prop)=>B3V (P:=P) (T:=T) (M:=M) (eff:=fun j=>eff.contains j) (wait:=waitsC ops eff) (Q:=Q) (C:=C) (v:=v) (pd:=pd) ho (fun j hj=>A5h hj) n listed A st hfree (fun j hj=>hD.waitsC hiun hj) hr'
   cases b with
   | false =>
    refine first (.tuple []) (fun _=>True) trivial (fun st' _=>.inr ⟨hb,rfl⟩) ?_
    have h2:=h.2 rfl
    cases hp:X5 o.op with
    | true =>
     rw [hp] at hO'
     exact A2t (fun p hp=>by
      rcases List.mem_cons.1 hp with rfl | hp
      ·exact .inr fun _=>trivial
      ·exact .inl hp) _ _ _ _ (A0s t pdI pd n _ _ _ hin (hD.set hr') hO' h2)
    | false =>
     rw [hp] at hO'
     exact A2t (fun p hp=>by
      rcases List.mem_cons.1 hp with rfl | hp
      ·exact .inr fun _=>trivial
      ·exact .inl hp) _ _ _ _ (A0s t (i::pdI) pd n _ _ _ (fun p hp=>List.mem_cons_of_mem _ (hin p hp)) (hD.set hr') hO' h2)
   | true =>
    have h1:=h.1 rfl
    cases hp:X5 o.op with
    | true =>
     rw [hp] at h1 hO'
     obtain ⟨v,hv,hrest⟩:=h1
     refine first v (fun _=>True) trivial (fun st' _=>.inl ⟨hb,A9S hp hv⟩) ?_
     exact A2t (fun p hp=>by
      rcases List.mem_cons.1 hp with rfl | hp
      ·exact .inr fun _=>trivial
      ·exact .inl hp) _ _ _ _ (A0s t pdI pd n _ _ _ hin (hD.set hr') hO' hrest)
    | false =>
     rw [hp] at h1 hO'
     obtain ⟨v,C,hC,hv,hrest⟩:=h1
     refine first v C hC (fun st' hc=>.inl ⟨hb,hv st' hc⟩) ?_
     exact A0s t (i::pdI) ((i,C)::pd) n _ _ _ (fun p hp=>by
      rcases List.mem_cons.1 hp with rfl | hp
      ·exact List.mem_cons_self ..
      ·exact List.mem_cons_of_mem _ (hin p hp)) (hD.set hr') hO' hrest
def Dp (P:Program) (T:G4) (M:H1) (ops:List Oper) (A:List AV) (st:St) (k:KA):Prop :=
 ∃ k':KA,(∀ A st,k' A st→k A st)∧(Dr P T M ops A st k'∨∃ (eff:List Nat) (t:PT),(Region.noSelect ops.toArray&&okP ops.toArray eff t [] ops.length (Array.replicate ops.length false))=true∧A4F P T M ops t [] A st k')
theorem C4U (hG:A6B P T M) (hm:P.follows .mixedOrders=true):C1w P (Dp P T M):=fun id ops K st0 w0 A a st w hA hS he ⟨k',hk,h⟩=>by
 have hmono:∀ {e:Exit} {a:Act} {w:World},A8z (fun e=>match e with | .normal=>k' | e=>K e) st0 w0 e a w→A8z K st0 w0 e a w:=fun {e a w} hl=>by
  cases e<;>first | exact hl | (obtain ⟨A',st',h1,h2⟩:=hl;exact ⟨A',st',hk _ _ h1,h2⟩)
 rcases h with h | ⟨eff,t,hok,hrun⟩
 ·exact wp_mono (C3e hG hm id ops (fun e=>match e with | .normal=>k' | e=>K e) st0 w0 A a st w hA hS he h) fun e a w hl=>hmono hl
 ·refine wp_mono (?_:(Code.region id ops true).wp P (A8z (fun e=>match e with | .normal=>k' | e=>K e) st0 w0) a w) fun e a w hl=>hmono hl
  have hD:A6A ops (Array.replicate ops.toList.length false):=fun j o hj ho=>by
   simp [Array.getElem?_replicate] at hj
   split at hj<;>simp at hj
  simp only [Bool.and_eq_true] at hok
  have hany:B2o P T M ops (fun j=>eff.contains j) k' ops.toList.length (Array.replicate ops.toList.length false) A st :=
   B1r _ _ _ _ (A0s t [] [] _ (Array.replicate ops.toList.length false) A st (fun p hp=>absurd hp List.not_mem_nil) hD (by simpa using hok.2) hrun)
  refine wp_region_any hm ?_
  have hA':N5 { w with drawn:=w.drawn+1 } st A a:=⟨hA.len,fun i v hv=>hA.at_ i v hv,hA.defers⟩
  have hS':H2 st { w with drawn:=w.drawn+1 }:=fun b x hx=>by
   obtain ⟨cs,h1⟩:=hS b x hx
   exact ⟨cs,⟨h1.heap,h1.size,h1.len,h1.one,h1.cell⟩⟩
  have he':Z3 st0 w0 st { w with drawn:=w.drawn+1 }:=⟨he.os,he.tape,he.output,he.size,he.blk,he.szm⟩
  have:=B2W hG (fun e=>match e with | .normal=>k' | e=>K e) st0 w0 ops.toList.length (Array.replicate ops.toList.length false) A a st { w with drawn:=w.drawn+1 } hA' hS' he' hany
  simpa using this
end
end Go.Ab
